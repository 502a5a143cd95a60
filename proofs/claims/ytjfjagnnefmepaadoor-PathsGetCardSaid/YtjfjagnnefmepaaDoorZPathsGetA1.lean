/- What PathsGet is proved with: an evaluator of the model's code over data, and that the machine does what it says. -/
import Derived.Test.YtjfjagnnefmepaaDoorZPathsGetA0
import Derived.StillTail
import Derived.LoopN
import Derived.Scope
import Derived.WalkKit
import Derived.ProofKit
import Derived.OpenShut
import Derived.ShutString
section
set_option linter.unusedVariables false
set_option linter.unusedSimpArgs false
set_option linter.unusedSimpArgs false
set_option linter.unusedVariables false
namespace Go.Ab
open Go.RowKit
variable {P : Program}

theorem upd_comm {α : Type} {f : Nat → α} {i j : Nat} (h : i ≠ j) (x y : α) : upd (upd f i x) j y = upd (upd f j y) i x := by
  funext k
  simp only [upd]
  by_cases h1 : k = j <;> by_cases h2 : k = i <;> simp [h1, h2]
  · subst h1; subst h2; exact absurd rfl h
  · intro h3; omega
  · intro h3; omega

/-- these two may come in either order -/
def commB (ops : Array Oper) (j i : Nat) (x y : Oper) : Bool :=
  x.apart ops y && (!loudF ops.toList true j x || (pureOp y.op && !loudF ops.toList true i y)) && (!loudF ops.toList true i y || (pureOp x.op && !loudF ops.toList true j x))

theorem val_put {s : St} {dst : Option Nat} {v : V} {x : Operand} (h : ∀ d, dst = some d → x ≠ .tmp d) : val (s.put dst v).t x = val s.t x := by
  cases dst with
  | none => rfl
  | some d =>
    cases x with
    | tmp t =>
      have : t ≠ d := fun e => h d rfl (e ▸ rfl)
      simp [val, St.put, upd, this]
    | _ => rfl

theorem looks_op {ops : Array Oper} {o : Oper} {d : Nat} (h : d ∉ o.looksAt ops) : ∀ x ∈ o.op.operands, x ≠ .tmp d := by
  rintro x hx rfl
  apply h
  unfold Oper.looksAt
  refine List.mem_append_left _ (List.mem_filterMap.2 ⟨.tmp d, by simpa using hx, rfl⟩)
theorem wanted_put {ops : Array Oper} {o : Oper} {s : St} {dst : Option Nat} {v : V} (h : ∀ d, dst = some d → d ∉ o.looksAt ops) : wantedV ops.toList (s.put dst v).t o = wantedV ops.toList s.t o := by
  unfold wantedV
  cases hg : o.guard with
  | none => rfl
  | some p =>
    obtain ⟨j, want⟩ := p
    simp only
    have hj : ops.toList[j]? = ops[j]? := by simp
    rw [hj]
    cases ho : ops[j]? with
    | none => rfl
    | some g =>
      simp only
      cases hd : g.dst with
      | none => rfl
      | some d =>
        simp only
        have hne : (s.put dst v).t d = s.t d := by
          cases dst with
          | none => rfl
          | some d' =>
            have : d ≠ d' := by
              rintro rfl
              apply h d rfl
              unfold Oper.looksAt
              refine List.mem_append_right _ ?_
              simp [hg, ho, hd]
            simp [St.put, upd, this]
        rw [hne]

/-- what one step does to the state: a value in its temporary, and to boxes and arrays what 'f' does -/
def Act1 (P : Program) (E : Env) (ops : Array Oper) (n0 m0 i : Nat) (o : Oper) (s : St) (v : V) (f : Hp → Hp) : Prop := stepOp P E ops.toList true n0 m0 i o s = some (({ s with hp := f s.hp } : St).put o.dst v)

theorem put_put {s : St} {x y : Option Nat} (u v : V) (h : ∀ d, x = some d → y ≠ some d) : (s.put x u).put y v = (s.put y v).put x u := by
  cases x with
  | none => rfl
  | some d =>
    cases y with
    | none => rfl
    | some e =>
      have hne : d ≠ e := fun he => h d rfl (he ▸ rfl)
      simp only [St.put]
      rw [upd_comm hne]

theorem stepOp_quiet {E : Env} {ops : Array Oper} {n0 m0 i : Nat} {o : Oper} {s s' : St} (hl : loudF ops.toList true i o = false) (hs : stepOp P E ops.toList true n0 m0 i o s = some s') :
    (wantedV ops.toList s.t o = some false ∧ s' = s.put o.dst (.tup [])) ∨ (wantedV ops.toList s.t o = some true ∧ ∃ v x, coreF P E (frB ops.toList true i o) (some (n0, m0)) (val s.t) s.hp (n0 + i) (m0 + i) o = some (v, x) ∧ s' = (s.new (n0 + i) (m0 + i) x).put o.dst v) := by
  unfold stepOp at hs
  cases hw : wantedV ops.toList s.t o with
  | none => rw [hw] at hs; cases hs
  | some b =>
    rw [hw] at hs
    cases b with
    | false => cases hs; exact .inl ⟨rfl, rfl⟩
    | true =>
      simp only [hl, Bool.false_eq_true, if_false, if_true] at hs
      cases hc : coreF P E (frB ops.toList true i o) (some (n0, m0)) (val s.t) s.hp (n0 + i) (m0 + i) o with
      | none => rw [hc] at hs; cases hs
      | some p => obtain ⟨v, x⟩ := p; rw [hc] at hs; cases hs; exact .inr ⟨rfl, v, x, rfl, rfl⟩
theorem stepOp_loud {E : Env} {ops : Array Oper} {n0 m0 i : Nat} {o : Oper} {s s' : St} (hl : loudF ops.toList true i o = true) (hs : stepOp P E ops.toList true n0 m0 i o s = some s') :
    (wantedV ops.toList s.t o = some false ∧ s' = s.put o.dst (.tup [])) ∨ (wantedV ops.toList s.t o = some true ∧ ∃ v hp, loud P E.call E.callR E.byref (val s.t) s.hp (m0 + i) o = some (v, hp) ∧ s' = ({ s with hp } : St).put o.dst v) := by
  unfold stepOp at hs
  cases hw : wantedV ops.toList s.t o with
  | none => rw [hw] at hs; cases hs
  | some b =>
    rw [hw] at hs
    cases b with
    | false => cases hs; exact .inl ⟨rfl, rfl⟩
    | true =>
      simp only [hl, if_true] at hs
      cases hc : loud P E.call E.callR E.byref (val s.t) s.hp (m0 + i) o with
      | none => rw [hc] at hs; cases hs
      | some p => obtain ⟨v, x⟩ := p; rw [hc] at hs; cases hs; exact .inr ⟨rfl, v, x, rfl, rfl⟩

theorem loud_congr {E : Env} {ρ ρ' : Operand → V} {hp : Hp} {ida : Nat} {o : Oper} (h : ∀ x ∈ o.op.operands, ρ x = ρ' x) : loud P E.call E.callR E.byref ρ hp ida o = loud P E.call E.callR E.byref ρ' hp ida o := by
  obtain ⟨dst, op, ty, pos, after, guard⟩ := o
  cases op <;> simp only [Op.operands] at h <;> simp only [loud]
  case store t a x => rw [h a (by simp), h x (by simp)]
  case next it b => cases b <;> simp only [h it (by simp)]
  case call c =>
    obtain ⟨callee, args, at_⟩ := c
    have hargs : args.toList.map ρ = args.toList.map ρ' := List.map_congr_left fun x hx => h x (by simp [Call.operands]; right; simpa using hx)
    cases callee with
    | value f =>
      have hf : ρ f = ρ' f := h f (by simp [Call.operands])
      simp only [hf, hargs]
    | invoke r m => rfl
    | builtin b => cases b <;> simp only [hargs]

theorem new_put (s : St) (idb ida : Nat) (x : New) (dst : Option Nat) (v : V) : (s.put dst v).new idb ida x = (s.new idb ida x).put dst v := by
  cases dst <;> cases x <;> rfl
theorem new_new (s : St) {i i' j j' : Nat} (x y : New) (h1 : i ≠ j) (h2 : i' ≠ j') : (s.new i i' x).new j j' y = (s.new j j' y).new i i' x := by
  cases x <;> cases y <;> simp only [St.new] <;> first | rfl | rw [upd_comm h1] | rw [upd_comm h2]
theorem new_t (s : St) (i j : Nat) (x : New) : (s.new i j x).t = s.t := by cases x <;> rfl
theorem agrees_new (s : St) {n0 m0 j : Nat} (x : New) : agrees (n0, m0) (s.new (n0 + j) (m0 + j) x).hp s.hp := by
  cases x with
  | nothing => exact ⟨fun _ _ => rfl, fun _ _ => rfl⟩
  | box b => exact ⟨fun q hq => by simp only at hq; simp only [St.new, upd]; rw [if_neg (by omega)], fun _ _ => rfl⟩
  | arr A => exact ⟨fun _ _ => rfl, fun q hq => by simp only at hq; simp only [St.new, upd]; rw [if_neg (by omega)]⟩

theorem freshK_congr {E : Env} {ρ ρ' : Operand → V} {o : Oper} (h : ∀ x ∈ o.op.operands, ρ x = ρ' x) : freshK E ρ o = freshK E ρ' o := by
  obtain ⟨dst, op, ty, pos, after, guard⟩ := o
  cases op <;> try rfl
  case call c =>
    obtain ⟨callee, args, at_⟩ := c
    cases callee <;> try rfl
    case value f =>
      simp only [Op.operands] at h
      have hargs : args.toList.map ρ = args.toList.map ρ' := List.map_congr_left fun x hx => h x (by simp [Call.operands]; right; simpa using hx)
      have hf : ρ f = ρ' f := h f (by simp [Call.operands])
      simp only [freshK, hf, hargs]
theorem quiet_repro {E : Env} {ops : Array Oper} {n0 m0 i : Nat} {o : Oper} {s s' s1 : St} (hl : loudF ops.toList true i o = false) (hw : wantedV ops.toList s'.t o = wantedV ops.toList s.t o) (hv : ∀ x ∈ o.op.operands, val s'.t x = val s.t x)
    (hh : agrees (n0, m0) s'.hp s.hp ∨ pureOp o.op = true) (h : stepOp P E ops.toList true n0 m0 i o s = some s1) :
    ∃ v x, s1 = (s.new (n0 + i) (m0 + i) x).put o.dst v ∧ stepOp P E ops.toList true n0 m0 i o s' = some ((s'.new (n0 + i) (m0 + i) x).put o.dst v) ∧ (pureOp o.op = true → frB ops.toList true i o = false → x = .nothing) := by
  rcases stepOp_quiet hl h with ⟨k1, rfl⟩ | ⟨k1, v, x, k2, rfl⟩
  · refine ⟨.tup [], .nothing, rfl, ?_, fun _ _ => rfl⟩
    unfold stepOp
    rw [hw, k1]; rfl
  · have hcc : core P E.call (some (n0, m0)) (val s'.t) s'.hp (n0 + i) (m0 + i) o = core P E.call (some (n0, m0)) (val s.t) s.hp (n0 + i) (m0 + i) o := by
      rcases hh with hh | hp
      · exact core_congr E.call (n0, m0) (n0 + i) (m0 + i) o hv hh
      · rw [(core_pure E.call (n0, m0) (val s'.t) s'.hp s.hp (n0 + i) (m0 + i) (n0 + i) (m0 + i) o hp).1, core_congr E.call (n0, m0) (n0 + i) (m0 + i) o hv (hp' := s.hp) ⟨fun _ _ => rfl, fun _ _ => rfl⟩]
    refine ⟨v, x, rfl, ?_, fun hp hf => ?_⟩
    · unfold stepOp
      rw [hw, k1]
      simp only [hl, Bool.false_eq_true, if_false, if_true]
      have e : coreF P E (frB ops.toList true i o) (some (n0, m0)) (val s'.t) s'.hp (n0 + i) (m0 + i) o = some (v, x) := by
        rw [← k2]
        unfold coreF
        rw [freshK_congr hv, hcc]
      rw [e]
    · rw [hf] at k2
      exact (core_pure E.call (n0, m0) (val s.t) s.hp s.hp (n0 + i) (m0 + i) (n0 + i) (m0 + i) o hp).2 v x k2
theorem loud_repro {E : Env} {ops : Array Oper} {n0 m0 i : Nat} {o : Oper} {s s' s1 : St} (hl : loudF ops.toList true i o = true) (hw : wantedV ops.toList s'.t o = wantedV ops.toList s.t o) (hv : ∀ x ∈ o.op.operands, val s'.t x = val s.t x)
    (hh : s'.hp = s.hp) (h : stepOp P E ops.toList true n0 m0 i o s = some s1) :
    ∃ v hp, s1 = ({ s with hp } : St).put o.dst v ∧ stepOp P E ops.toList true n0 m0 i o s' = some (({ s' with hp } : St).put o.dst v) := by
  rcases stepOp_loud hl h with ⟨k1, rfl⟩ | ⟨k1, v, hp, k2, rfl⟩
  · refine ⟨.tup [], s.hp, rfl, ?_⟩
    unfold stepOp
    rw [hw, k1, ← hh]
  · refine ⟨v, hp, rfl, ?_⟩
    unfold stepOp
    rw [hw, k1]
    simp only [hl, if_true]
    rw [hh, loud_congr hv, k2]
theorem with_put (s : St) (hp : Hp) (dst : Option Nat) (v : V) : ({ s.put dst v with hp } : St) = ({ s with hp } : St).put dst v := by cases dst <;> rfl

/-- two operations that may come in either order leave the same -/
theorem step_comm {E : Env} {ops : Array Oper} {n0 m0 i j : Nat} {oi oj : Oper} {s s1 s2 : St} (hij : i ≠ j) (hc : commB ops j i oj oi = true) (hfj : frB ops.toList true j oj = true → loudF ops.toList true i oi = false) (hfi : frB ops.toList true i oi = true → loudF ops.toList true j oj = false) (h1 : stepOp P E ops.toList true n0 m0 j oj s = some s1) (h2 : stepOp P E ops.toList true n0 m0 i oi s1 = some s2) :
    ∃ s1', stepOp P E ops.toList true n0 m0 i oi s = some s1' ∧ stepOp P E ops.toList true n0 m0 j oj s1' = some s2 := by
  simp only [commB, Bool.and_eq_true, Bool.or_eq_true, Bool.not_eq_true'] at hc
  obtain ⟨⟨hap, hc1⟩, hc2⟩ := hc
  obtain ⟨a1, a2, a3⟩ := Oper.apart_spec hap
  have wi : ∀ s v, wantedV ops.toList (St.put s oj.dst v).t oi = wantedV ops.toList s.t oi := fun s v => wanted_put fun d hd => a1 d hd
  have wj : ∀ s v, wantedV ops.toList (St.put s oi.dst v).t oj = wantedV ops.toList s.t oj := fun s v => wanted_put fun d hd => a3 d hd
  have vi : ∀ s v, ∀ x ∈ oi.op.operands, val (St.put s oj.dst v).t x = val s.t x := fun s v x hx => val_put fun d hd => looks_op (a1 d hd) x hx
  have vj : ∀ s v, ∀ x ∈ oj.op.operands, val (St.put s oi.dst v).t x = val s.t x := fun s v x hx => val_put fun d hd => looks_op (a3 d hd) x hx
  have pp : ∀ (s : St) u v, (s.put oj.dst u).put oi.dst v = (s.put oi.dst v).put oj.dst u := fun s u v => put_put u v a2
  cases hlj : loudF ops.toList true j oj with
  | false =>
    cases hli : loudF ops.toList true i oi with
    | false =>
      -- both quiet: first what 'j' leaves
      obtain ⟨u, x, rfl, _, _⟩ := quiet_repro (s' := s) hlj rfl (fun _ _ => rfl) (.inl ⟨fun _ _ => rfl, fun _ _ => rfl⟩) h1
      obtain ⟨v, y, rfl, k2, _⟩ := quiet_repro (s' := s) hli (by rw [wi, new_t]) (fun z hz => by rw [vi _ _ z hz, new_t]) (.inl (by
        rw [put_hp]; exact ⟨fun b hb => ((agrees_new s x).1 b hb).symm, fun b hb => ((agrees_new s x).2 b hb).symm⟩)) h2
      refine ⟨_, k2, ?_⟩
      obtain ⟨u', x', e1, k3, _⟩ := quiet_repro (s' := (s.new (n0 + i) (m0 + i) y).put oi.dst v) hlj (by rw [wj, new_t]) (fun z hz => by rw [vj _ _ z hz, new_t]) (.inl (by rw [put_hp]; exact agrees_new s y)) h1
      rw [k3]
      have e2 : ((((s.new (n0 + j) (m0 + j) x).put oj.dst u).new (n0 + i) (m0 + i) y).put oi.dst v) = ((((s.new (n0 + j) (m0 + j) x').put oj.dst u').new (n0 + i) (m0 + i) y).put oi.dst v) := by rw [e1]
      rw [e2, new_put, new_put, ← new_new s y x' (by omega) (by omega), pp]
    | true =>
      have hpj : pureOp oj.op = true := by rcases hc2 with h | h; rw [hli] at h; cases h; exact h.1
      have hnf : frB ops.toList true j oj = false := by
        cases hq : frB ops.toList true j oj with
        | false => rfl
        | true => have := hfj hq; rw [hli] at this; cases this
      obtain ⟨u, x, rfl, _, hx⟩ := quiet_repro (s' := s) hlj rfl (fun _ _ => rfl) (.inr hpj) h1
      obtain rfl := hx hpj hnf
      obtain ⟨v, hp, rfl, k2⟩ := loud_repro (s' := s) hli (by rw [wi]; rfl) (fun z hz => by rw [vi _ _ z hz]; rfl) (by rw [put_hp]; rfl) h2
      refine ⟨_, k2, ?_⟩
      obtain ⟨u', x', e1, k3, hx'⟩ := quiet_repro (s' := ({ s with hp } : St).put oi.dst v) hlj (by rw [wj]) (fun z hz => by rw [vj _ _ z hz]) (.inr hpj) h1
      obtain rfl := hx' hpj hnf
      rw [k3]
      have e2 : (({ (s.new (n0 + j) (m0 + j) .nothing).put oj.dst u with hp } : St).put oi.dst v) = (({ (s.new (n0 + j) (m0 + j) .nothing).put oj.dst u' with hp } : St).put oi.dst v) := by rw [e1]
      rw [e2, with_put, pp]
      rfl
  | true =>
    have hpi : pureOp oi.op = true ∧ loudF ops.toList true i oi = false := by rcases hc1 with h | h; rw [hlj] at h; cases h; exact h
    obtain ⟨hpi, hli⟩ := hpi
    have hnf : frB ops.toList true i oi = false := by
      cases hq : frB ops.toList true i oi with
      | false => rfl
      | true => have := hfi hq; rw [hlj] at this; cases this
    obtain ⟨u, hp, rfl, _⟩ := loud_repro (s' := s) hlj rfl (fun _ _ => rfl) rfl h1
    obtain ⟨v, y, rfl, k2, hy⟩ := quiet_repro (s' := s) hli (by rw [wi]) (fun z hz => by rw [vi _ _ z hz]) (.inr hpi) h2
    obtain rfl := hy hpi hnf
    refine ⟨_, k2, ?_⟩
    obtain ⟨u', hp', e1, k3⟩ := loud_repro (s' := (s.new (n0 + i) (m0 + i) .nothing).put oi.dst v) hlj (by rw [wj]; rfl) (fun z hz => by rw [vj _ _ z hz]; rfl) (by rw [put_hp]; rfl) h1
    rw [k3]
    have e2 : ((({ s with hp } : St).put oj.dst u).new (n0 + i) (m0 + i) .nothing).put oi.dst v = ((({ s with hp := hp' } : St).put oj.dst u').new (n0 + i) (m0 + i) .nothing).put oi.dst v := by rw [e1]
    rw [e2, with_put]
    exact congrArg some (pp _ _ _).symm

/-! ### two stores to different boxes or arrays -/
theorem storeV_form {hp hp1 : Hp} {x : V} {us : List V} (h : storeV hp x us = some hp1) :
    (∃ b o cs, x = .ref b o ∧ hp.h b = some (.cells cs false) ∧ o + us.length ≤ cs.length ∧ hp1 = { hp with h := upd hp.h b (some (.cells (fillL cs o us) false)) }) ∨
    (∃ b v o A, x = .aref b v o ∧ hp.a b = some A ∧ (A.ver = v ∧ A.ro ≤ o ∧ o + us.length ≤ A.cs.length) ∧ hp1 = { hp with a := upd hp.a b (some { A with cs := fillL A.cs o us }) }) := by
  cases x <;> simp only [storeV, reduceCtorEq] at h
  case ref b o =>
    left
    cases hb : hp.h b with
    | none => rw [hb] at h; cases h
    | some y =>
      rw [hb] at h
      cases y with
      | iter s p => cases h
      | cells cs ro =>
        cases ro with
        | true => cases h
        | false =>
          simp only at h
          split at h
          · rename_i hl; cases h; exact ⟨b, o, cs, rfl, hb, hl, rfl⟩
          · cases h
  case aref b v o =>
    right
    cases hb : hp.a b with
    | none => rw [hb] at h; cases h
    | some A =>
      rw [hb] at h
      simp only at h
      split at h
      · rename_i hl; cases h; exact ⟨b, v, o, A, rfl, hb, hl, rfl⟩
      · cases h
theorem storeV_ref {hp : Hp} {b o : Nat} {cs us : List V} (h1 : hp.h b = some (.cells cs false)) (h2 : o + us.length ≤ cs.length) : storeV hp (.ref b o) us = some { hp with h := upd hp.h b (some (.cells (fillL cs o us) false)) } := by
  simp only [storeV, h1, if_pos h2]
theorem storeV_aref {hp : Hp} {b v o : Nat} {A : Arr} {us : List V} (h1 : hp.a b = some A) (h2 : A.ver = v ∧ A.ro ≤ o ∧ o + us.length ≤ A.cs.length) : storeV hp (.aref b v o) us = some { hp with a := upd hp.a b (some { A with cs := fillL A.cs o us }) } := by
  simp only [storeV, h1, if_pos h2]
theorem upd_off {α : Type} {f : Nat → α} {i j : Nat} (h : j ≠ i) (x : α) : upd f i x j = f j := by simp only [upd]; rw [if_neg h]
theorem store_swap {hp hp1 hp2 : Hp} {x y : V} {us vs : List V} (hb : baseNe x y = true) (h1 : storeV hp x us = some hp1) (h2 : storeV hp1 y vs = some hp2) :
    ∃ hp1', storeV hp y vs = some hp1' ∧ storeV hp1' x us = some hp2 := by
  rcases storeV_form h1 with ⟨b, o, cs, rfl, k1, k2, rfl⟩ | ⟨b, v, o, A, rfl, k1, k2, rfl⟩ <;>
    rcases storeV_form h2 with ⟨c, p, ds, rfl, g1, g2, rfl⟩ | ⟨c, w, p, B, rfl, g1, g2, rfl⟩
  · have hne : b ≠ c := by
      rintro rfl
      simp [baseNe] at hb
    have g1' : hp.h c = some (.cells ds false) := by
      have := g1
      simp only [upd_off (Ne.symm hne)] at this
      exact this
    refine ⟨_, storeV_ref g1' g2, ?_⟩
    rw [storeV_ref (cs := cs) (by simp only [upd_off hne]; exact k1) k2]
    simp only [upd_comm hne]
  · exact ⟨_, storeV_aref (hp := hp) g1 g2, storeV_ref (hp := { hp with a := upd hp.a c (some { B with cs := fillL B.cs p vs }) }) (cs := cs) k1 k2⟩
  · exact ⟨_, storeV_ref (hp := hp) g1 g2, storeV_aref (hp := { hp with h := upd hp.h c (some (.cells (fillL ds p vs) false)) }) (A := A) k1 k2⟩
  · have hne : b ≠ c := by
      rintro rfl
      simp [baseNe] at hb
    have g1' : hp.a c = some B := by
      have := g1
      simp only [upd_off (Ne.symm hne)] at this
      exact this
    refine ⟨_, storeV_aref g1' g2, ?_⟩
    rw [storeV_aref (A := A) (by simp only [upd_off hne]; exact k1) k2]
    simp only [upd_comm hne]
theorem stTmp_spec {o : Oper} {a : Nat} (h : stTmp o = some a) : ∃ t x, o.op = .store t (.tmp a) x := by
  obtain ⟨dst, op, ty, pos, after, guard⟩ := o
  unfold stTmp at h
  cases op <;> try (cases h; done)
  case store t ad x =>
    cases ad <;> try (cases h; done)
    case tmp n =>
      cases h
      exact ⟨t, x, rfl⟩
theorem loud_store {call : Call} {callR : CallR} {byref : Nat → Bool} {ρ : Operand → V} {hp hp' : Hp} {ida : Nat} {o : Oper} {t : Nat} {a x : Operand} {v : V} (ho : o.op = .store t a x) (h : loud P call callR byref ρ hp ida o = some (v, hp')) :
    v = .tup [] ∧ ∃ vs, storeV hp (ρ a) vs = some hp' ∧ ∀ hp1 hp1' ida', storeV hp1 (ρ a) vs = some hp1' → loud P call callR byref ρ hp1 ida' o = some (.tup [], hp1') := by
  obtain ⟨dst, op, ty, pos, after, guard⟩ := o
  simp only at ho; subst ho
  simp only [loud] at h ⊢
  split at h <;> try cases h
  rename_i vs hc
  split at h <;> try cases h
  rename_i hl
  cases hs : storeV hp (ρ a) vs with
  | none => rw [hs] at h; cases h
  | some hp2 =>
    rw [hs] at h
    cases h
    refine ⟨rfl, vs, hs, fun hp1 hp1' ida' h' => ?_⟩
    rw [if_pos hl, h']; rfl
/-! ### a read that has nothing to do with a write -/
theorem isRd_spec {o : Oper} {ld : Bool} {a : Nat} (h : isRd o = some (ld, a)) : (ld = true ∧ ∃ t, o.op = .load t (.tmp a)) ∨ (ld = false ∧ ∃ t lo hi mx, o.op = .slice t (.tmp a) lo hi mx) := by
  obtain ⟨dst, op, ty, pos, after, guard⟩ := o
  unfold isRd at h
  cases op <;> try (cases h; done)
  case load t ad => cases ad <;> cases h; exact .inl ⟨rfl, t, rfl⟩
  case slice t x lo hi mx => cases x <;> cases h; exact .inr ⟨rfl, t, lo, hi, mx, rfl⟩
theorem isW_loud {ops : List Oper} {i : Nat} {o : Oper} {st : Bool} (h : isW o = some st) : loudF ops true i o = true := by
  obtain ⟨dst, op, ty, pos, after, guard⟩ := o
  unfold isW at h
  unfold loudF
  cases op <;> try (cases h; done)
  case store => rfl
  case call c =>
    obtain ⟨callee, args, at_⟩ := c
    cases callee <;> try (cases h; done)
    case builtin b => cases b <;> first | rfl | (cases h; done)
theorem isRd_quiet {ops : List Oper} {i : Nat} {o : Oper} {ld : Bool} {a : Nat} (h : isRd o = some (ld, a)) : loudF ops true i o = false := by
  rcases isRd_spec h with ⟨_, t, e⟩ | ⟨_, t, lo, hi, mx, e⟩ <;> simp [loudF, isLoud, isCallV, e]
theorem isRd_fr {ops : List Oper} {i : Nat} {o : Oper} {ld : Bool} {a : Nat} (h : isRd o = some (ld, a)) : frB ops true i o = false := by
  rcases isRd_spec h with ⟨_, t, e⟩ | ⟨_, t, lo, hi, mx, e⟩ <;> simp [frB, isCallV, e]
theorem rd_looks {ops : Array Oper} {o y : Oper} {ld : Bool} {a : Nat} (hb : isRd y = some (ld, a)) (h : o.apart ops y = true) : o.dst ≠ some a := by
  intro hd
  rcases isRd_spec hb with ⟨_, t, e⟩ | ⟨_, t, lo, hi, mx, e⟩
  · exact looks_op ((Oper.apart_spec h).1 a hd) (.tmp a) (by rw [e]; simp [Op.operands]) rfl
  · exact looks_op ((Oper.apart_spec h).1 a hd) (.tmp a) (by rw [e]; simp [Op.operands]) rfl
theorem core_rd {call : Call} {l : Nat × Nat} {ρ : Operand → V} {hp hp' : Hp} {idb ida idb' ida' : Nat} {o : Oper} {st ld : Bool} {a : Nat} (hq : isRd o = some (ld, a)) (hsl : (st && ld) = false) (hv : rdOK st ld (ρ (.tmp a)) = true) (hh : st = false → hp.h = hp'.h) :
    core P call (some l) ρ hp idb ida o = core P call (some l) ρ hp' idb' ida' o ∧ ∀ v x, core P call (some l) ρ hp idb ida o = some (v, x) → x = .nothing := by
  obtain ⟨dst, op, ty, pos, after, guard⟩ := o
  rcases isRd_spec hq with ⟨rfl, t, e⟩ | ⟨rfl, t, lo, hi, mx, e⟩
  · simp only at e; subst e
    obtain rfl : st = false := by simpa using hsl
    have hh := hh rfl
    refine ⟨?_, fun v x hc => ?_⟩
    · simp only [core]
      have : look (some l) hp (ρ (.tmp a)) (tsize P t) = look (some l) hp' (ρ (.tmp a)) (tsize P t) := by
        cases hr : ρ (.tmp a) <;> rw [hr] at hv <;> simp only [look, hh]
        simp [rdOK] at hv
      rw [this]
    · simp only [core] at hc
      obtain ⟨_, _, hc⟩ := Option.bind_eq_some_iff.1 hc
      obtain ⟨_, _, hc⟩ := Option.bind_eq_some_iff.1 hc
      cases hc; rfl
  · simp only at e; subst e
    refine ⟨?_, fun v x hc => ?_⟩
    · simp only [core]
      have : arrOk P (some l) hp t (ρ (.tmp a)) = arrOk P (some l) hp' t (ρ (.tmp a)) := by
        cases hr : ρ (.tmp a) <;> rw [hr] at hv <;> simp only [arrOk]
        simp [rdOK] at hv
      rw [this]
    · simp only [core] at hc
      split at hc
      · cases hc
      · obtain ⟨_, _, hc⟩ := Option.bind_eq_some_iff.1 hc
        cases hc; rfl
theorem appendV_h {size bytes ida : Nat} {hp hp' : Hp} {s x v : V} (h : appendV size bytes hp ida s x = some (v, hp')) : hp'.h = hp.h := by
  unfold appendV at h
  repeat' (first | (cases h; rfl) | (cases h; done) | split at h)
theorem loud_h {call : Call} {callR : CallR} {byref : Nat → Bool} {ρ : Operand → V} {hp hp' : Hp} {ida : Nat} {o : Oper} {v : V} (ho : isW o = some false) (h : loud P call callR byref ρ hp ida o = some (v, hp')) : hp'.h = hp.h := by
  obtain ⟨dst, op, ty, pos, after, guard⟩ := o
  unfold isW at ho
  cases op <;> try (cases ho; done)
  case call c =>
    obtain ⟨callee, args, at_⟩ := c
    cases callee <;> try (cases ho; done)
    case builtin b =>
      cases b <;> try (cases ho; done)
      · simp only [loud] at h
        split at h <;> try (cases h; done)
        split at h <;> try (cases h; done)
        obtain ⟨_, _, h⟩ := Option.bind_eq_some_iff.1 h
        obtain ⟨_, _, h⟩ := Option.bind_eq_some_iff.1 h
        split at h <;> try (cases h; done)
        exact appendV_h h
      · simp only [loud] at h
        split at h <;> try (cases h; done)
        split at h <;> try (cases h; done)
        obtain ⟨_, _, h⟩ := Option.bind_eq_some_iff.1 h
        split at h <;> try (cases h; done)
        split at h
        · cases h; rfl
        · obtain ⟨hp1, h1, h⟩ := Option.bind_eq_some_iff.1 h
          cases h
          rcases storeV_form h1 with ⟨b, o, cs, e, _⟩ | ⟨b, v, o, A, e, k1, k2, rfl⟩
          · cases e
          · rfl
theorem quiet_rd {E : Env} {ops : Array Oper} {n0 m0 i : Nat} {o : Oper} {s s' s1 : St} {st ld : Bool} {a : Nat} (hq : isRd o = some (ld, a)) (hsl : (st && ld) = false) (hr : rdOK st ld (s.t a) = true) (hw : wantedV ops.toList s'.t o = wantedV ops.toList s.t o) (hv : ∀ x ∈ o.op.operands, val s'.t x = val s.t x)
    (hh : st = false → s'.hp.h = s.hp.h) (h : stepOp P E ops.toList true n0 m0 i o s = some s1) :
    ∃ v, s1 = s.put o.dst v ∧ stepOp P E ops.toList true n0 m0 i o s' = some (s'.put o.dst v) := by
  have hl := isRd_quiet (ops := ops.toList) (i := i) hq
  rcases stepOp_quiet hl h with ⟨k1, rfl⟩ | ⟨k1, v, x, k2, rfl⟩
  · refine ⟨.tup [], rfl, ?_⟩
    unfold stepOp
    rw [hw, k1]
  · have hf0 := isRd_fr (ops := ops.toList) (i := i) hq
    rw [hf0] at k2
    have k2 : core P E.call (some (n0, m0)) (val s.t) s.hp (n0 + i) (m0 + i) o = some (v, x) := k2
    have c1 := core_rd (P := P) (call := E.call) (l := (n0, m0)) (ρ := val s.t) (hp := s.hp) (hp' := s'.hp) (idb := n0 + i) (ida := m0 + i) (idb' := n0 + i) (ida' := m0 + i) hq hsl hr (fun h => (hh h).symm)
    obtain rfl := c1.2 v x k2
    refine ⟨v, rfl, ?_⟩
    unfold stepOp
    rw [hw, k1]
    simp only [hl, Bool.false_eq_true, if_false, if_true]
    have e : core P E.call (some (n0, m0)) (val s'.t) s'.hp (n0 + i) (m0 + i) o = some (v, .nothing) := by
      rw [core_congr E.call (n0, m0) (n0 + i) (m0 + i) o hv (hp' := s'.hp) ⟨fun _ _ => rfl, fun _ _ => rfl⟩, ← c1.1]; exact k2
    rw [show coreF P E (frB ops.toList true i o) (some (n0, m0)) (val s'.t) s'.hp (n0 + i) (m0 + i) o = some (v, .nothing) from by rw [hf0]; exact e]; rfl
theorem loud_keeps {E : Env} {ops : Array Oper} {n0 m0 i : Nat} {o : Oper} {s s1 : St} {st : Bool} (hw : isW o = some st) (h : stepOp P E ops.toList true n0 m0 i o s = some s1) : st = false → s1.hp.h = s.hp.h := by
  rintro rfl
  rcases stepOp_loud (isW_loud hw) h with ⟨_, rfl⟩ | ⟨_, v, hp, k2, rfl⟩
  · rw [put_hp]
  · rw [put_hp]; exact loud_h hw k2
theorem step_mix1 {E : Env} {ops : Array Oper} {n0 m0 i j : Nat} {oi oj : Oper} {s s1 s2 : St} {st ld : Bool} {a : Nat} (hwj : isW oj = some st) (hq : isRd oi = some (ld, a)) (hsl : (st && ld) = false) (hap : oj.apart ops oi = true) (hr : rdOK st ld (s.t a) = true) (h1 : stepOp P E ops.toList true n0 m0 j oj s = some s1) (h2 : stepOp P E ops.toList true n0 m0 i oi s1 = some s2) :
    ∃ s1', stepOp P E ops.toList true n0 m0 i oi s = some s1' ∧ stepOp P E ops.toList true n0 m0 j oj s1' = some s2 := by
  obtain ⟨a1, a2, a3⟩ := Oper.apart_spec hap
  have hk := loud_keeps hwj h1
  have hlj := isW_loud (ops := ops.toList) (i := j) hwj
  obtain ⟨u, hp, rfl, _⟩ := loud_repro (s' := s) hlj rfl (fun _ _ => rfl) rfl h1
  have hta : (({ s with hp } : St).put oj.dst u).t a = s.t a := by
    have := val_put (s := { s with hp }) (dst := oj.dst) (v := u) (x := .tmp a) (fun d hd e => by cases e; exact rd_looks hq hap hd)
    exact this
  rw [put_hp] at hk
  obtain ⟨v, e2, k2⟩ := quiet_rd (s := ({ s with hp } : St).put oj.dst u) (s' := s) hq hsl (by rw [hta]; exact hr) (by rw [wanted_put (s := { s with hp }) fun d hd => a1 d hd]) (fun x hx => by rw [val_put (s := { s with hp }) fun d hd => looks_op (a1 d hd) x hx]) (fun h => by rw [put_hp]; exact (hk h).symm) h2
  subst e2
  refine ⟨_, k2, ?_⟩
  obtain ⟨u', hp', e1, k3⟩ := loud_repro (s' := s.put oi.dst v) hlj (by rw [wanted_put fun d hd => a3 d hd]) (fun z hz => by rw [val_put fun d hd => looks_op (a3 d hd) z hz]) (by rw [put_hp]) h1
  rw [k3]
  have e2 : ((({ s with hp } : St).put oj.dst u).put oi.dst v) = ((({ s with hp := hp' } : St).put oj.dst u').put oi.dst v) := by rw [e1]
  rw [e2, with_put]
  exact congrArg some (put_put _ _ a2).symm
theorem step_mix2 {E : Env} {ops : Array Oper} {n0 m0 i j : Nat} {oi oj : Oper} {s s1 s2 : St} {st ld : Bool} {a : Nat} (hq : isRd oj = some (ld, a)) (hwi : isW oi = some st) (hsl : (st && ld) = false) (hap : oj.apart ops oi = true) (hr : rdOK st ld (s.t a) = true) (h1 : stepOp P E ops.toList true n0 m0 j oj s = some s1) (h2 : stepOp P E ops.toList true n0 m0 i oi s1 = some s2) :
    ∃ s1', stepOp P E ops.toList true n0 m0 i oi s = some s1' ∧ stepOp P E ops.toList true n0 m0 j oj s1' = some s2 := by
  obtain ⟨a1, a2, a3⟩ := Oper.apart_spec hap
  have hli := isW_loud (ops := ops.toList) (i := i) hwi
  obtain ⟨v, rfl, _⟩ := quiet_rd (s := s) (s' := s) hq hsl hr rfl (fun _ _ => rfl) (fun _ => rfl) h1
  obtain ⟨u, hp, rfl, k2⟩ := loud_repro (s' := s) hli (by rw [wanted_put fun d hd => a1 d hd]) (fun z hz => by rw [val_put fun d hd => looks_op (a1 d hd) z hz]) (by rw [put_hp]) h2
  have hk := loud_keeps hwi k2
  rw [put_hp] at hk
  refine ⟨_, k2, ?_⟩
  obtain ⟨v', e1, k3⟩ := quiet_rd (s := s) (s' := ({ s with hp } : St).put oi.dst u) hq hsl hr (by rw [wanted_put (s := { s with hp }) fun d hd => a3 d hd]) (fun z hz => by rw [val_put (s := { s with hp }) fun d hd => looks_op (a3 d hd) z hz]) (fun h => by rw [put_hp]; exact hk h) h1
  rw [k3]
  have e2 : (({ s.put oj.dst v with hp } : St).put oi.dst u) = (({ s.put oj.dst v' with hp } : St).put oi.dst u) := by rw [e1]
  rw [e2, with_put]
  exact congrArg some (put_put _ _ a2).symm
theorem look_store {lim : Option (Nat × Nat)} {hp hp1 : Hp} {x y : V} {us : List V} {n : Nat} (hb : baseNe x y = true) (h : storeV hp x us = some hp1) : look lim hp1 y n = look lim hp y n := by
  rcases storeV_form h with ⟨b, o, cs, rfl, k1, k2, rfl⟩ | ⟨b, v, o, A, rfl, k1, k2, rfl⟩
  · cases y <;> simp only [look]
    case ref c p =>
      have hne : c ≠ b := by rintro rfl; simp [baseNe] at hb
      rw [upd_off hne]
  · cases y <;> simp only [look]
    case aref c w p =>
      have hne : c ≠ b := by rintro rfl; simp [baseNe] at hb
      rw [upd_off hne]
theorem isLd_spec {o : Oper} {a : Nat} (h : isRd o = some (true, a)) : ∃ t, o.op = .load t (.tmp a) := by
  rcases isRd_spec h with ⟨_, t, e⟩ | ⟨e, _⟩
  · exact ⟨t, e⟩
  · cases e
/-- a load, in two memories that read alike there -/
theorem quiet_ld {E : Env} {ops : Array Oper} {n0 m0 i : Nat} {o : Oper} {s s' s1 : St} {a : Nat} (hq : isRd o = some (true, a)) (hw : wantedV ops.toList s'.t o = wantedV ops.toList s.t o) (hv : ∀ x ∈ o.op.operands, val s'.t x = val s.t x)
    (hh : ∀ n, look (some (n0, m0)) s'.hp (s.t a) n = look (some (n0, m0)) s.hp (s.t a) n) (h : stepOp P E ops.toList true n0 m0 i o s = some s1) :
    ∃ v, s1 = s.put o.dst v ∧ stepOp P E ops.toList true n0 m0 i o s' = some (s'.put o.dst v) := by
  have hl := isRd_quiet (ops := ops.toList) (i := i) hq
  obtain ⟨t, e⟩ := isLd_spec hq
  obtain ⟨dst, op, ty, pos, after, guard⟩ := o
  simp only at e; subst e
  rcases stepOp_quiet hl h with ⟨k1, rfl⟩ | ⟨k1, v, x, k2, rfl⟩
  · refine ⟨.tup [], rfl, ?_⟩
    unfold stepOp
    rw [hw, k1]
  · have hf0 := isRd_fr (ops := ops.toList) (i := i) hq
    rw [hf0] at k2
    have k2 : core P E.call (some (n0, m0)) (val s.t) s.hp (n0 + i) (m0 + i) { dst := dst, op := .load t (.tmp a), type := ty, pos := pos, after := after, guard := guard } = some (v, x) := k2
    have hx : x = .nothing := by
      simp only [core] at k2
      obtain ⟨_, _, k2⟩ := Option.bind_eq_some_iff.1 k2
      obtain ⟨_, _, k2⟩ := Option.bind_eq_some_iff.1 k2
      cases k2; rfl
    subst hx
    refine ⟨v, rfl, ?_⟩
    have ha : s'.t a = s.t a := hv (.tmp a) (by simp [Op.operands])
    have e : core P E.call (some (n0, m0)) (val s'.t) s'.hp (n0 + i) (m0 + i) { dst := dst, op := .load t (.tmp a), type := ty, pos := pos, after := after, guard := guard } = some (v, .nothing) := by
      have k3 := k2
      simp only [core, val] at k3 ⊢
      rw [ha, hh]; exact k3
    unfold stepOp
    rw [hw, k1]
    simp only [hl, Bool.false_eq_true, if_false, if_true]
    rw [show coreF P E (frB ops.toList true i { dst := dst, op := .load t (.tmp a), type := ty, pos := pos, after := after, guard := guard }) (some (n0, m0)) (val s'.t) s'.hp (n0 + i) (m0 + i) { dst := dst, op := .load t (.tmp a), type := ty, pos := pos, after := after, guard := guard } = some (v, .nothing) from by rw [hf0]; exact e]; rfl
theorem step_sl1 {E : Env} {ops : Array Oper} {n0 m0 i j : Nat} {oi oj : Oper} {s s1 s2 : St} {a b : Nat} (ha : stTmp oj = some a) (hq : isRd oi = some (true, b)) (hap : oj.apart ops oi = true) (hne : baseNe (s.t a) (s.t b) = true) (h1 : stepOp P E ops.toList true n0 m0 j oj s = some s1) (h2 : stepOp P E ops.toList true n0 m0 i oi s1 = some s2) :
    ∃ s1', stepOp P E ops.toList true n0 m0 i oi s = some s1' ∧ stepOp P E ops.toList true n0 m0 j oj s1' = some s2 := by
  obtain ⟨a1, a2, a3⟩ := Oper.apart_spec hap
  obtain ⟨tj, xj, ej⟩ := stTmp_spec ha
  have hlj : loudF ops.toList true j oj = true := by simp [loudF, isLoud, ej]
  have hlook : ∀ n, look (some (n0, m0)) s.hp (s.t b) n = look (some (n0, m0)) s1.hp (s.t b) n := by
    intro n
    rcases stepOp_loud hlj h1 with ⟨_, rfl⟩ | ⟨_, v, hp, k2, rfl⟩
    · rw [put_hp]
    · obtain ⟨_, vs, k3, _⟩ := loud_store ej k2
      rw [put_hp]; exact (look_store hne k3).symm
  obtain ⟨u, hp, rfl, _⟩ := loud_repro (s' := s) hlj rfl (fun _ _ => rfl) rfl h1
  have htb : (({ s with hp } : St).put oj.dst u).t b = s.t b := by
    have := val_put (s := { s with hp }) (dst := oj.dst) (v := u) (x := .tmp b) (fun d hd e => by cases e; exact rd_looks hq hap hd)
    exact this
  obtain ⟨v, e2, k2⟩ := quiet_ld (s := ({ s with hp } : St).put oj.dst u) (s' := s) hq (by rw [wanted_put (s := { s with hp }) fun d hd => a1 d hd]) (fun x hx => by rw [val_put (s := { s with hp }) fun d hd => looks_op (a1 d hd) x hx]) (fun n => by rw [htb]; exact hlook n) h2
  subst e2
  refine ⟨_, k2, ?_⟩
  obtain ⟨u', hp', e1, k3⟩ := loud_repro (s' := s.put oi.dst v) hlj (by rw [wanted_put fun d hd => a3 d hd]) (fun z hz => by rw [val_put fun d hd => looks_op (a3 d hd) z hz]) (by rw [put_hp]) h1
  rw [k3]
  have e2 : ((({ s with hp } : St).put oj.dst u).put oi.dst v) = ((({ s with hp := hp' } : St).put oj.dst u').put oi.dst v) := by rw [e1]
  rw [e2, with_put]
  exact congrArg some (put_put _ _ a2).symm
theorem step_sl2 {E : Env} {ops : Array Oper} {n0 m0 i j : Nat} {oi oj : Oper} {s s1 s2 : St} {a b : Nat} (hq : isRd oj = some (true, a)) (hb : stTmp oi = some b) (hap : oj.apart ops oi = true) (hne : baseNe (s.t b) (s.t a) = true) (h1 : stepOp P E ops.toList true n0 m0 j oj s = some s1) (h2 : stepOp P E ops.toList true n0 m0 i oi s1 = some s2) :
    ∃ s1', stepOp P E ops.toList true n0 m0 i oi s = some s1' ∧ stepOp P E ops.toList true n0 m0 j oj s1' = some s2 := by
  obtain ⟨a1, a2, a3⟩ := Oper.apart_spec hap
  obtain ⟨ti, xi, ei⟩ := stTmp_spec hb
  have hli : loudF ops.toList true i oi = true := by simp [loudF, isLoud, ei]
  obtain ⟨v, rfl, _⟩ := quiet_ld (s := s) (s' := s) hq rfl (fun _ _ => rfl) (fun _ => rfl) h1
  obtain ⟨u, hp, rfl, k2⟩ := loud_repro (s' := s) hli (by rw [wanted_put fun d hd => a1 d hd]) (fun z hz => by rw [val_put fun d hd => looks_op (a1 d hd) z hz]) (by rw [put_hp]) h2
  have hlook : ∀ n, look (some (n0, m0)) hp (s.t a) n = look (some (n0, m0)) s.hp (s.t a) n := by
    intro n
    rcases stepOp_loud hli k2 with ⟨_, e⟩ | ⟨_, v', hp', k3, e⟩
    · have := congrArg St.hp e
      rw [put_hp, put_hp] at this
      rw [show hp = s.hp from this]
    · obtain ⟨_, vs, k4, _⟩ := loud_store ei k3
      have := congrArg St.hp e
      rw [put_hp, put_hp] at this
      rw [show hp = hp' from this]
      exact look_store hne k4
  refine ⟨_, k2, ?_⟩
  obtain ⟨v', e1, k3⟩ := quiet_ld (s := s) (s' := ({ s with hp } : St).put oi.dst u) hq (by rw [wanted_put (s := { s with hp }) fun d hd => a3 d hd]) (fun z hz => by rw [val_put (s := { s with hp }) fun d hd => looks_op (a3 d hd) z hz]) (fun n => by rw [put_hp]; exact hlook n) h1
  rw [k3]
  have e2 : (({ s.put oj.dst v with hp } : St).put oi.dst u) = (({ s.put oj.dst v' with hp } : St).put oi.dst u) := by rw [e1]
  rw [e2, with_put]
  exact congrArg some (put_put _ _ a2).symm
theorem step_late {E : Env} {ops : Array Oper} {n0 m0 i j : Nat} {oi oj : Oper} {s s1 s2 : St} {a b : Nat} (ha : stTmp oj = some a) (hb : stTmp oi = some b) (hap : oj.apart ops oi = true) (hne : baseNe (s.t a) (s.t b) = true) (h1 : stepOp P E ops.toList true n0 m0 j oj s = some s1) (h2 : stepOp P E ops.toList true n0 m0 i oi s1 = some s2) :
    ∃ s1', stepOp P E ops.toList true n0 m0 i oi s = some s1' ∧ stepOp P E ops.toList true n0 m0 j oj s1' = some s2 := by
  obtain ⟨a1, a2, a3⟩ := Oper.apart_spec hap
  obtain ⟨tj, xj, ej⟩ := stTmp_spec ha
  obtain ⟨ti, xi, ei⟩ := stTmp_spec hb
  have hlj : loudF ops.toList true j oj = true := by simp [loudF, isLoud, ej]
  have hli : loudF ops.toList true i oi = true := by simp [loudF, isLoud, ei]
  have wi : ∀ s v, wantedV ops.toList (St.put s oj.dst v).t oi = wantedV ops.toList s.t oi := fun s v => wanted_put fun d hd => a1 d hd
  have wj : ∀ s v, wantedV ops.toList (St.put s oi.dst v).t oj = wantedV ops.toList s.t oj := fun s v => wanted_put fun d hd => a3 d hd
  have vi : ∀ s v, ∀ x ∈ oi.op.operands, val (St.put s oj.dst v).t x = val s.t x := fun s v x hx => val_put fun d hd => looks_op (a1 d hd) x hx
  have vj : ∀ s v, ∀ x ∈ oj.op.operands, val (St.put s oi.dst v).t x = val s.t x := fun s v x hx => val_put fun d hd => looks_op (a3 d hd) x hx
  have pp : ∀ (s : St) u v, (s.put oj.dst u).put oi.dst v = (s.put oi.dst v).put oj.dst u := fun s u v => put_put u v a2
  rcases stepOp_loud hlj h1 with ⟨k1, rfl⟩ | ⟨k1, u, hp, k2, rfl⟩
  · obtain ⟨v, hp, rfl, g2⟩ := loud_repro (s' := s) hli (by rw [wi]) (fun z hz => by rw [vi _ _ z hz]) (by rw [put_hp]) h2
    refine ⟨_, g2, ?_⟩
    have : stepOp P E ops.toList true n0 m0 j oj (({ s with hp } : St).put oi.dst v) = some ((({ s with hp } : St).put oi.dst v).put oj.dst (.tup [])) := by
      unfold stepOp
      rw [wj]
      simp only [k1]
    rw [this, with_put, pp]
  · rcases stepOp_loud hli h2 with ⟨q1, rfl⟩ | ⟨q1, v, hp', q2, rfl⟩
    · have q1' : wantedV ops.toList s.t oi = some false := by rw [wi] at q1; exact q1
      have g1 : stepOp P E ops.toList true n0 m0 i oi s = some (s.put oi.dst (.tup [])) := by
        unfold stepOp
        rw [q1']
      refine ⟨_, g1, ?_⟩
      obtain ⟨u', hp', e1, g2⟩ := loud_repro (s' := s.put oi.dst (.tup [])) hlj (by rw [wj]) (fun z hz => by rw [vj _ _ z hz]) (by rw [put_hp]) h1
      rw [g2]
      have e2 : (({ s with hp } : St).put oj.dst u).put oi.dst (.tup []) = (({ s with hp := hp' } : St).put oj.dst u').put oi.dst (.tup []) := by rw [e1]
      rw [e2, pp, with_put]
    · have q1' : wantedV ops.toList s.t oi = some true := by rw [wi] at q1; exact q1
      obtain ⟨hu, us, r1, r2⟩ := loud_store ej k2
      have q2' : loud P E.call E.callR E.byref (val s.t) hp (m0 + i) oi = some (v, hp') := by
        have e : loud P E.call E.callR E.byref (val (({ s with hp } : St).put oj.dst u).t) hp (m0 + i) oi = loud P E.call E.callR E.byref (val s.t) hp (m0 + i) oi := loud_congr fun z hz => vi { s with hp } u z hz
        rw [put_hp] at q2
        exact e.symm.trans q2
      obtain ⟨rfl, vs, p1, p2⟩ := loud_store ei q2'
      subst hu
      obtain ⟨hpx, z1, z2⟩ := store_swap (x := val s.t (.tmp a)) (y := val s.t (.tmp b)) hne r1 p1
      have g1 : stepOp P E ops.toList true n0 m0 i oi s = some (({ s with hp := hpx } : St).put oi.dst (.tup [])) := by
        unfold stepOp
        rw [q1']
        simp only [hli, if_true]
        rw [p2 _ _ _ z1]
      refine ⟨_, g1, ?_⟩
      have g2 : stepOp P E ops.toList true n0 m0 j oj (({ s with hp := hpx } : St).put oi.dst (.tup [])) = some (({ (({ s with hp := hpx } : St).put oi.dst (.tup [])) with hp := hp' } : St).put oj.dst (.tup [])) := by
        unfold stepOp
        rw [wj]
        simp only [k1, hlj, if_true]
        have e : loud P E.call E.callR E.byref (val (({ s with hp := hpx } : St).put oi.dst (.tup [])).t) hpx (m0 + j) oj = loud P E.call E.callR E.byref (val s.t) hpx (m0 + j) oj := loud_congr fun z hz => vj { s with hp := hpx } _ z hz
        rw [put_hp, e, r2 _ _ _ z2]
      rw [g2, with_put, with_put, pp]
end Go.Ab
end

section
set_option linter.unusedVariables false
set_option linter.unusedSimpArgs false
set_option linter.unusedSimpArgs false
set_option linter.unusedVariables false
namespace Go.Ab
open Go.RowKit
variable {P : Program}

theorem RInv.less {D : List Deferred} {U U' : Nat → Prop} {n0 m0 : Nat} {base : Nat} {G0 : Gh} {w0 : World} {hp0 : Hp} {N : Nat} {s : St} {a : Act} {w : World} {G : Gh} (h : RInv D U n0 m0 base G0 w0 hp0 N s a w G) (hU : ∀ j, U' j → U j) : RInv D U' n0 m0 base G0 w0 hp0 N s a w G :=
  ⟨h.inv, h.t, h.d, h.N, h.ln, h.lm, fun j hj => h.ub j (hU j hj), fun j hj => h.ua j (hU j hj)⟩

def dstB (N : Nat) (ops : Array Oper) : Bool := ops.toList.all fun o => match o.dst with | some d => decide (d < N) | none => true
theorem dstB_spec {N : Nat} {ops : Array Oper} (h : dstB N ops = true) {i : Nat} {o : Oper} (ho : ops[i]? = some o) : ∀ d, o.dst = some d → d < N := by
  intro d hd
  have := List.all_eq_true.1 h o (Array.mem_toList_iff.2 (Array.mem_of_getElem? ho))
  simpa [hd] using this

/-- a region in the text's order -/
theorem ops_ok {D : List Deferred} {L : World → Prop} {E : Env} (hE : EnvOK P L E) {ops : Array Oper} {Q : Exit → Act → World → Prop} {n0 m0 : Nat} {base : Nat} {G0 : Gh} {w0 : World} {hp0 : Hp} {N : Nat} (hL : ∀ w', Below base w0 w' → L w') (hD : dstB N ops = true) {s' : St}
    (hQ : ∀ a' w' G', RInv D (fun _ => False) n0 m0 base G0 w0 hp0 N s' a' w' G' → Q .normal a' w') :
    ∀ (os : List Oper) (i : Nat) (s : St) (a : Act) (w : World) (G : Gh), (∀ j, os[j]? = ops[i + j]?) → RInv D (fun j => i ≤ j ∧ j < i + os.length) n0 m0 base G0 w0 hp0 N s a w G → stepOps P E ops.toList false n0 m0 i os s = some s' →
      wpOps P ops Q (List.range' i os.length) a w
  | [], i, s, a, w, G, _, R, h => by
    cases h
    simp only [List.length_nil, List.range'_zero, wpOps]
    exact hQ a w G (R.less fun j hj => hj.elim)
  | o :: os, i, s, a, w, G, hj, R, h => by
    have hi : ops[i]? = some o := by have := hj 0; simpa using this.symm
    simp only [stepOps] at h
    cases h1 : stepOp P E ops.toList false n0 m0 i o s with
    | none => rw [h1] at h; cases h
    | some s1 =>
      rw [h1] at h
      simp only [List.length_cons, List.range'_succ]
      rw [wpOps_cons]
      refine stepOp_ok hE hL R (i := i) ⟨Nat.le_refl _, by simp⟩ hi (dstB_spec hD hi) h1 fun a' w' G' R' => ?_
      refine ops_ok hE hL hD hQ os (i + 1) s1 a' w' G' (fun j => by have := hj (j + 1); simpa [Nat.add_assoc, Nat.add_comm 1 j] using this) (R'.less ?_) h
      rintro j ⟨h2, h3⟩
      refine ⟨⟨by omega, ?_⟩, by omega⟩
      simp only [List.length_cons]; omega

/-! ### in any order -/
def stepL (P : Program) (E : Env) (ops : Array Oper) (n0 m0 : Nat) : List Nat → St → Option St
  | [], s => some s
  | i :: l, s => match ops[i]? with
    | some o => match stepOp P E ops.toList true n0 m0 i o s with
      | some s' => stepL P E ops n0 m0 l s'
      | none => none
    | none => none
def ancB (ops : Array Oper) : Nat → Nat → Nat → Bool
  | 0, _, _ => false
  | d + 1, i, j => match ops[i]? with
    | some o => o.after.toList.any fun e => Region.binds .any e && (e.on == j || ancB ops d e.on j)
    | none => false
/-- a write and a read whose place stays as it is: at the region's end it is looked at (lateR) -/
def lateM (ops : Array Oper) (j i : Nat) (x y : Oper) : Bool :=
  match isW x, isRd y with
  | some st, some (ld, a) => !(st && ld) && x.apart ops y && ((ops.toList.drop i).all fun o => match o.dst with | some d => !(Nat.beq d a) | none => true)
  | _, _ => match isRd x, isW y with
    | some (ld, a), some st => !(st && ld) && x.apart ops y && ((ops.toList.drop j).all fun o => match o.dst with | some d => !(Nat.beq d a) | none => true)
    | _, _ => false
/-- two stores whose addresses stay as they are: at the region's end they are looked at (lateR) -/
def late1 (ops : Array Oper) (j i : Nat) (x y : Oper) : Bool :=
  match stTmp x, stTmp y with
  | some a, some b => x.apart ops y && ((ops.toList.drop j).all fun o => match o.dst with | some d => !(Nat.beq d a) | none => true) && ((ops.toList.drop i).all fun o => match o.dst with | some d => !(Nat.beq d b) | none => true)
  | _, _ => false
/-- a store and a load whose places stay as they are -/
def lateL (ops : Array Oper) (j i : Nat) (x y : Oper) : Bool :=
  match stTmp x, isRd y with
  | some a, some (true, b) => x.apart ops y && ((ops.toList.drop j).all fun o => match o.dst with | some d => !(Nat.beq d a) | none => true) && ((ops.toList.drop i).all fun o => match o.dst with | some d => !(Nat.beq d b) | none => true)
  | _, _ => match isRd x, stTmp y with
    | some (true, a), some b => x.apart ops y && ((ops.toList.drop j).all fun o => match o.dst with | some d => !(Nat.beq d a) | none => true) && ((ops.toList.drop i).all fun o => match o.dst with | some d => !(Nat.beq d b) | none => true)
    | _, _ => false
def lateS (ops : Array Oper) (j i : Nat) (x y : Oper) : Bool := late1 ops j i x y || (lateM ops j i x y || lateL ops j i x y)
def rokB (ops : Array Oper) : Bool :=
  (List.range ops.size).all fun i => match ops[i]? with
    | some y => (y.after.toList.all fun e => !Region.binds .any e || decide (e.on < i)) &&
      (List.range i).all fun j => ancB ops ops.size i j || (match ops[j]? with | some x => commB ops j i x y || lateS ops j i x y | none => false)
    | none => false

def ClosedL (ops : Array Oper) (listed : Array Bool) : Prop := ∀ k o, ops[k]? = some o → listed.getD k false = true → ∀ e ∈ o.after, Region.binds .any e = true → listed.getD e.on false = true
theorem anc_listed {ops : Array Oper} {listed : Array Bool} (hc : ClosedL ops listed) : ∀ (d i j : Nat), (∀ o, ops[i]? = some o → ∀ e ∈ o.after, Region.binds .any e = true → listed.getD e.on false = true) → ancB ops d i j = true → listed.getD j false = true
  | 0, _, _, _, h => by cases h
  | d + 1, i, j, hp, h => by
    simp only [ancB] at h
    cases ho : ops[i]? with
    | none => rw [ho] at h; cases h
    | some o =>
      rw [ho] at h
      simp only [List.any_eq_true, Bool.and_eq_true, Bool.or_eq_true, beq_iff_eq] at h
      obtain ⟨e, he, hb, h⟩ := h
      have hl := hp o ho e (by simpa using he) hb
      rcases h with rfl | h
      · exact hl
      · exact anc_listed hc d e.on j (fun o' ho' e' he' hb' => hc e.on o' ho' hl e' he' hb') h

theorem stepL_append {E : Env} {ops : Array Oper} {n0 m0 : Nat} : ∀ (l1 l2 : List Nat) (s s' : St), stepL P E ops n0 m0 (l1 ++ l2) s = some s' ↔ ∃ s1, stepL P E ops n0 m0 l1 s = some s1 ∧ stepL P E ops n0 m0 l2 s1 = some s'
  | [], l2, s, s' => by simp [stepL]
  | i :: l1, l2, s, s' => by
    simp only [List.cons_append, stepL]
    cases ops[i]? with
    | none => simp
    | some o =>
      simp only
      cases stepOp P E ops.toList true n0 m0 i o s with
      | none => simp
      | some s1 => exact stepL_append l1 l2 s1 s'
theorem stepOp_keep {E : Env} {ops : List Oper} {draw : Bool} {n0 m0 i d : Nat} {o : Oper} {s s' : St} (hd : o.dst ≠ some d) (h : stepOp P E ops draw n0 m0 i o s = some s') : s'.t d = s.t d := by
  have hp : ∀ (z : St) v, (z.put o.dst v).t d = z.t d := by
    intro z v
    cases ho : o.dst with
    | none => rfl
    | some e =>
      have : d ≠ e := by rintro rfl; exact hd ho
      simp [St.put, upd, this]
  unfold stepOp at h
  split at h
  · split at h
    · split at h <;> cases h
      rw [hp]
    · split at h <;> cases h
      rw [hp, new_t]
  · cases h; rw [hp]
  · cases h
theorem stepL_keep {E : Env} {ops : Array Oper} {n0 m0 d : Nat} : ∀ (l : List Nat) (s s' : St), (∀ k ∈ l, ∀ o, ops[k]? = some o → o.dst ≠ some d) → stepL P E ops n0 m0 l s = some s' → s'.t d = s.t d
  | [], s, s', _, h => by cases h; rfl
  | k :: l, s, s', hk, h => by
    simp only [stepL] at h
    cases ho : ops[k]? with
    | none => rw [ho] at h; cases h
    | some o =>
      rw [ho] at h
      simp only at h
      cases h1 : stepOp P E ops.toList true n0 m0 k o s with
      | none => rw [h1] at h; cases h
      | some s1 =>
        rw [h1] at h
        rw [stepL_keep l s1 s' (fun k' hk' => hk k' (by simp [hk'])) h]
        exact stepOp_keep (hk k (by simp) o ho) h1
/-- two stores to what are different boxes or arrays, as the temporaries say at the end -/
def Late1 (ops : Array Oper) (t : Nat → V) (j i : Nat) (x y : Oper) : Prop :=
  ∃ a b, stTmp x = some a ∧ stTmp y = some b ∧ x.apart ops y = true ∧ baseNe (t a) (t b) = true ∧ (∀ k o, j ≤ k → ops[k]? = some o → o.dst ≠ some a) ∧ ∀ k o, i ≤ k → ops[k]? = some o → o.dst ≠ some b
/-- a write and a read that have nothing to do with one another, as the temporaries say at the end -/
def Mix (ops : Array Oper) (t : Nat → V) (j i : Nat) (x y : Oper) : Prop :=
  x.apart ops y = true ∧ ((∃ st ld a, isW x = some st ∧ isRd y = some (ld, a) ∧ (st && ld) = false ∧ rdOK st ld (t a) = true ∧ ∀ k o, i ≤ k → ops[k]? = some o → o.dst ≠ some a) ∨
    ∃ st ld a, isRd x = some (ld, a) ∧ isW y = some st ∧ (st && ld) = false ∧ rdOK st ld (t a) = true ∧ ∀ k o, j ≤ k → ops[k]? = some o → o.dst ≠ some a)
def Lat3 (ops : Array Oper) (t : Nat → V) (j i : Nat) (x y : Oper) : Prop :=
  x.apart ops y = true ∧ ((∃ a b, stTmp x = some a ∧ isRd y = some (true, b) ∧ baseNe (t a) (t b) = true ∧ (∀ k o, j ≤ k → ops[k]? = some o → o.dst ≠ some a) ∧ ∀ k o, i ≤ k → ops[k]? = some o → o.dst ≠ some b) ∨
    ∃ a b, isRd x = some (true, a) ∧ stTmp y = some b ∧ baseNe (t b) (t a) = true ∧ (∀ k o, j ≤ k → ops[k]? = some o → o.dst ≠ some a) ∧ ∀ k o, i ≤ k → ops[k]? = some o → o.dst ≠ some b)
def Late (ops : Array Oper) (t : Nat → V) (j i : Nat) (x y : Oper) : Prop := Late1 ops t j i x y ∨ Mix ops t j i x y ∨ Lat3 ops t j i x y
theorem Late.apart {ops : Array Oper} {t : Nat → V} {j i : Nat} {x y : Oper} (h : commB ops j i x y = true ∨ Late ops t j i x y) : x.apart ops y = true := by
  rcases h with h | ⟨_, _, _, _, h, _⟩ | h | h
  · simp only [commB, Bool.and_eq_true] at h; exact h.1.1
  · exact h
  · exact h.1
  · exact h.1
theorem st_looks {ops : Array Oper} {o y : Oper} {b : Nat} (hb : stTmp y = some b) (h : o.apart ops y = true) : o.dst ≠ some b := by
  intro hd
  obtain ⟨t, x, e⟩ := stTmp_spec hb
  exact looks_op ((Oper.apart_spec h).1 b hd) (.tmp b) (by rw [e]; simp [Op.operands]) rfl
/-- what may tell an array of its own, and what writes, wait for one another -/
def FrOK (ops : Array Oper) (j i : Nat) (x y : Oper) : Prop := (frB ops.toList true j x = true → loudF ops.toList true i y = false) ∧ (frB ops.toList true i y = true → loudF ops.toList true j x = false)
/-- an operation that may come up now is taken first -/
theorem stepL_front {E : Env} {ops : Array Oper} {n0 m0 i : Nat} {oi : Oper} (hi : ops[i]? = some oi) : ∀ (l1 l2 : List Nat) (s s' : St), (l1 ++ i :: l2).Pairwise (· < ·) → (∀ j ∈ l1, j ≠ i ∧ ∀ oj, ops[j]? = some oj → commB ops j i oj oi = true ∨ Late ops s'.t j i oj oi) → (∀ j ∈ l1, ∀ oj, ops[j]? = some oj → FrOK ops j i oj oi) → stepL P E ops n0 m0 (l1 ++ i :: l2) s = some s' →
    ∃ s1, stepOp P E ops.toList true n0 m0 i oi s = some s1 ∧ stepL P E ops n0 m0 (l1 ++ l2) s1 = some s'
  | [], l2, s, s', _, _, _, h => by
    simp only [List.nil_append, stepL, hi] at h
    cases h1 : stepOp P E ops.toList true n0 m0 i oi s with
    | none => rw [h1] at h; cases h
    | some s1 => rw [h1] at h; exact ⟨s1, rfl, h⟩
  | j :: l1, l2, s, s', hw, hc, hfr, h => by
    have h0 := h
    simp only [List.cons_append, stepL] at h
    cases hj : ops[j]? with
    | none => rw [hj] at h; cases h
    | some oj =>
      rw [hj] at h
      simp only at h
      cases h1 : stepOp P E ops.toList true n0 m0 j oj s with
      | none => rw [h1] at h; cases h
      | some s1 =>
        rw [h1] at h
        have hw' := List.pairwise_cons.1 (by simpa using hw : (j :: (l1 ++ i :: l2)).Pairwise (· < ·))
        obtain ⟨s2, h2, h3⟩ := stepL_front hi l1 l2 s1 s' hw'.2 (fun k hk => hc k (by simp [hk])) (fun k hk => hfr k (by simp [hk])) h
        have hcj := hc j (by simp)
        have hsw : ∃ s1', stepOp P E ops.toList true n0 m0 i oi s = some s1' ∧ stepOp P E ops.toList true n0 m0 j oj s1' = some s2 := by
          have hge : ∀ k ∈ (j :: l1) ++ i :: l2, j ≤ k := by
            intro k hk
            rcases List.mem_cons.1 (by simpa using hk : k ∈ j :: (l1 ++ i :: l2)) with rfl | hk'
            · exact Nat.le_refl _
            · exact Nat.le_of_lt (hw'.1 k hk')
          have stay : ∀ b, (∀ k o, i ≤ k → ops[k]? = some o → o.dst ≠ some b) → (∀ x : Oper, x.apart ops oi = true → x.dst ≠ some b) → s'.t b = s.t b := fun b hkb hlk =>
            stepL_keep (d := b) _ s s' (fun k hk o ho => by
              rcases List.mem_append.1 hk with hk | hk
              · exact hlk o (Late.apart ((hc k hk).2 o ho))
              · refine hkb k o ?_ ho
                have hw2 := (List.pairwise_append.1 hw).2.1
                rcases List.mem_cons.1 hk with rfl | hk
                · exact Nat.le_refl _
                · exact Nat.le_of_lt ((List.pairwise_cons.1 hw2).1 k hk)) h0
          have stay1 : ∀ a, (∀ k o, j ≤ k → ops[k]? = some o → o.dst ≠ some a) → s'.t a = s.t a := fun a hka => stepL_keep (d := a) _ s s' (fun k hk o ho => hka k o (hge k hk) ho) h0
          rcases hcj.2 oj hj with hk | ⟨a, b, ha, hb, hap, hne, hka, hkb⟩ | ⟨hap, ⟨st, ld, a, ha, hb, hsl, hr, hkb⟩ | ⟨st, ld, a, ha, hb, hsl, hr, hka⟩⟩ | ⟨hap, ⟨a, b, ha, hb, hne, hka, hkb⟩ | ⟨a, b, ha, hb, hne, hka, hkb⟩⟩
          · exact step_comm (Ne.symm hcj.1) hk (hfr j (by simp) oj hj).1 (hfr j (by simp) oj hj).2 h1 h2
          · rw [stay1 a hka, stay b hkb (fun x hx => st_looks hb hx)] at hne
            exact step_late ha hb hap hne h1 h2
          · rw [stay a hkb (fun x hx => rd_looks hb hx)] at hr
            exact step_mix1 ha hb hsl hap hr h1 h2
          · rw [stay1 a hka] at hr
            exact step_mix2 ha hb hsl hap hr h1 h2
          · rw [stay1 a hka, stay b hkb (fun x hx => rd_looks hb hx)] at hne
            exact step_sl1 ha hb hap hne h1 h2
          · rw [stay1 a hka, stay b hkb (fun x hx => st_looks hb hx)] at hne
            exact step_sl2 ha hb hap hne h1 h2
        obtain ⟨s1', g1, g2⟩ := hsw
        refine ⟨s1', g1, ?_⟩
        simp only [List.cons_append, stepL, hj, g2]
        exact h3

/-! ### what lateR says -/
theorem ancL_ancB {ops : Array Oper} : ∀ (d i j : Nat), ancL ops.toList d i j = true → ancB ops d i j = true
  | 0, _, _, h => by cases h
  | d + 1, i, j, h => by
    simp only [ancL] at h
    simp only [ancB]
    have e : ops.toList[i]? = ops[i]? := by simp
    rw [e] at h
    cases ho : ops[i]? with
    | none => rw [ho] at h; cases h
    | some o =>
      rw [ho] at h
      simp only [List.any_eq_true, Bool.and_eq_true, Bool.or_eq_true] at h ⊢
      obtain ⟨e, he, hb, h⟩ := h
      refine ⟨e, he, hb, ?_⟩
      rcases h with h | h
      · left; simpa using h
      · exact .inr (ancL_ancB d _ _ h)
theorem stL_mem : ∀ (os : List Oper) (k i : Nat) (o : Oper) (b : Nat), os[i]? = some o → stTmp o = some b → (k + i, b) ∈ stL k os
  | [], _, _, _, _, h, _ => by cases h
  | o' :: os, k, 0, o, b, h, hb => by
    cases h
    simp only [stL, hb]; simp
  | o' :: os, k, i + 1, o, b, h, hb => by
    have := stL_mem os (k + 1) i o b (by simpa using h) hb
    have e : k + (i + 1) = k + 1 + i := by omega
    rw [e]
    simp only [stL]
    split
    · exact List.mem_cons_of_mem _ this
    · exact this
theorem lateOne_mem {ops : List Oper} {t : Nat → V} {j a : Nat} : ∀ (l : List (Nat × Nat)) (i b : Nat), lateOne ops t j a l = true → (i, b) ∈ l → ancL ops ops.length i j = true ∨ baseNe (t a) (t b) = true
  | [], _, _, _, h => by cases h
  | (i', b') :: l, i, b, h, hm => by
    simp only [lateOne, Bool.and_eq_true, Bool.or_eq_true] at h
    rcases List.mem_cons.1 hm with e | hm
    · cases e; exact h.1
    · exact lateOne_mem l i b h.2 hm
theorem lateAll_tail {ops : List Oper} {t : Nat → V} {o : Oper} {os : List Oper} {k : Nat} (h : lateAll ops t (stL k (o :: os)) = true) : lateAll ops t (stL (k + 1) os) = true := by
  simp only [stL] at h
  split at h
  · simp only [lateAll, Bool.and_eq_true] at h; exact h.2
  · exact h
theorem lateAll_spec {ops : List Oper} {t : Nat → V} (os : List Oper) : ∀ (k : Nat), lateAll ops t (stL k os) = true → ∀ (j i : Nat) (oj oi : Oper) (a b : Nat), j < i → os[j]? = some oj → os[i]? = some oi → stTmp oj = some a → stTmp oi = some b → ancL ops ops.length (k + i) (k + j) = true ∨ baseNe (t a) (t b) = true := by
  induction os with
  | nil => intro k _ j i oj oi a b _ h1; simp at h1
  | cons o os ih =>
    intro k h j i oj oi a b hji h1 h2 h3 h4
    obtain ⟨i', rfl⟩ : ∃ i', i = i' + 1 := ⟨i - 1, by omega⟩
    have h2' : os[i']? = some oi := by simpa using h2
    have e : k + (i' + 1) = k + 1 + i' := by omega
    rw [e]
    by_cases hj : j = 0
    · subst hj
      have ho : o = oj := by simpa using h1
      subst ho
      have hm := stL_mem os (k + 1) i' oi b h2' h4
      have hh : lateOne ops t k a (stL (k + 1) os) = true := by
        simp only [stL, h3, lateAll, Bool.and_eq_true] at h
        exact h.1
      exact lateOne_mem _ _ _ hh hm
    · obtain ⟨j', rfl⟩ : ∃ j', j = j' + 1 := ⟨j - 1, by omega⟩
      have e2 : k + (j' + 1) = k + 1 + j' := by omega
      rw [e2]
      exact ih (k + 1) (lateAll_tail h) j' i' oj oi a b (by omega) (by simpa using h1) h2' h3 h4
theorem drop_dst {ops : Array Oper} {j a : Nat} (h : ((ops.toList.drop j).all fun o => match o.dst with | some d => !(Nat.beq d a) | none => true) = true) (k : Nat) (o : Oper) (hk : j ≤ k) (ho : ops[k]? = some o) : o.dst ≠ some a := by
  rw [List.all_eq_true] at h
  have hm : o ∈ ops.toList.drop j := by
    rw [List.mem_iff_getElem?]
    refine ⟨k - j, ?_⟩
    rw [List.getElem?_drop, show j + (k - j) = k by omega]
    simpa using ho
  have := h o hm
  cases hd : o.dst with
  | none => simp
  | some d =>
    rw [hd] at this
    have q1 : d ≠ a := by rintro rfl; simp at this
    simpa using q1
theorem wL_mem : ∀ (os : List Oper) (k i : Nat) (o : Oper) (st : Bool), os[i]? = some o → isW o = some st → (k + i, st) ∈ wL k os
  | [], _, _, _, _, h, _ => by cases h
  | o' :: os, k, 0, o, b, h, hb => by
    cases h
    simp only [wL, hb]; simp
  | o' :: os, k, i + 1, o, b, h, hb => by
    have := wL_mem os (k + 1) i o b (by simpa using h) hb
    have e : k + (i + 1) = k + 1 + i := by omega
    rw [e]
    simp only [wL]
    split
    · exact List.mem_cons_of_mem _ this
    · exact this
theorem rL_mem : ∀ (os : List Oper) (k i : Nat) (o : Oper) (ld : Bool) (a : Nat), os[i]? = some o → isRd o = some (ld, a) → (k + i, ld, a) ∈ rL k os
  | [], _, _, _, _, _, h, _ => by cases h
  | o' :: os, k, 0, o, b, a, h, hb => by
    cases h
    simp only [rL, hb]; simp
  | o' :: os, k, i + 1, o, b, a, h, hb => by
    have := rL_mem os (k + 1) i o b a (by simpa using h) hb
    have e : k + (i + 1) = k + 1 + i := by omega
    rw [e]
    simp only [rL]
    split
    · exact List.mem_cons_of_mem _ this
    · exact this
theorem mixOne_mem {ops : List Oper} {t : Nat → V} {j : Nat} {st : Bool} : ∀ (l : List (Nat × Bool × Nat)) (i : Nat) (ld : Bool) (a : Nat), mixOne ops t j st l = true → (i, ld, a) ∈ l → (st && ld) = true ∨ rdOK st ld (t a) = true ∨ ancL ops ops.length i j = true ∨ ancL ops ops.length j i = true
  | [], _, _, _, _, h => by cases h
  | (i', ld', a') :: l, i, ld, a, h, hm => by
    simp only [mixOne, Bool.and_eq_true, Bool.or_eq_true] at h
    rcases List.mem_cons.1 hm with e | hm
    · cases e
      rcases h.1 with ((h | h) | h) | h
      · exact .inl (by simpa using h)
      · exact .inr (.inl h)
      · exact .inr (.inr (.inl h))
      · exact .inr (.inr (.inr h))
    · exact mixOne_mem l i ld a h.2 hm
theorem mixAll_mem {ops : List Oper} {t : Nat → V} : ∀ (l : List (Nat × Bool)) (j : Nat) (st : Bool), mixAll ops t l = true → (j, st) ∈ l → mixOne ops t j st (rL 0 ops) = true
  | [], _, _, _, h => by cases h
  | (j', st') :: l, j, st, h, hm => by
    simp only [mixAll, Bool.and_eq_true] at h
    rcases List.mem_cons.1 hm with e | hm
    · cases e; exact h.1
    · exact mixAll_mem l j st h.2 hm
theorem slOne_mem {ops : List Oper} {t : Nat → V} {j a : Nat} : ∀ (l : List (Nat × Bool × Nat)) (i b : Nat), slOne ops t j a l = true → (i, true, b) ∈ l → baseNe (t a) (t b) = true ∨ ancL ops ops.length i j = true ∨ ancL ops ops.length j i = true
  | [], _, _, _, h => by cases h
  | (i', ld', b') :: l, i, b, h, hm => by
    simp only [slOne, Bool.and_eq_true, Bool.or_eq_true, Bool.not_eq_true'] at h
    rcases List.mem_cons.1 hm with e | hm
    · cases e
      rcases h.1 with ((h | h) | h) | h
      · cases h
      · exact .inl h
      · exact .inr (.inl h)
      · exact .inr (.inr h)
    · exact slOne_mem l i b h.2 hm
theorem slAll_mem {ops : List Oper} {t : Nat → V} : ∀ (l : List (Nat × Nat)) (j a : Nat), slAll ops t l = true → (j, a) ∈ l → slOne ops t j a (rL 0 ops) = true
  | [], _, _, _, h => by cases h
  | (j', a') :: l, j, a, h, hm => by
    simp only [slAll, Bool.and_eq_true] at h
    rcases List.mem_cons.1 hm with e | hm
    · cases e; exact h.1
    · exact slAll_mem l j a h.2 hm
theorem anc_lt {ops : Array Oper} (hR : ∀ i y, ops[i]? = some y → ∀ e ∈ y.after, Region.binds .any e = true → e.on < i) : ∀ (d i j : Nat), ancB ops d i j = true → j < i
  | 0, _, _, h => by cases h
  | d + 1, i, j, h => by
    simp only [ancB] at h
    cases ho : ops[i]? with
    | none => rw [ho] at h; cases h
    | some o =>
      rw [ho] at h
      simp only [List.any_eq_true, Bool.and_eq_true, Bool.or_eq_true, beq_iff_eq] at h
      obtain ⟨e, he, hb, h⟩ := h
      have hl := hR i o ho e (by simpa using he) hb
      rcases h with rfl | h
      · exact hl
      · exact Nat.lt_trans (anc_lt hR d e.on j h) hl
theorem frI_spec {ops : Array Oper} {i j : Nat} {x y : Oper} (hy : ops[i]? = some y) (hx : ops[j]? = some x) (hij : j ≠ i) (h : frB ops.toList true i y = true) : loudF ops.toList true j x = false ∨ ancL ops.toList ops.toList.length i j = true ∨ ancL ops.toList ops.toList.length j i = true := by
  unfold frB at h
  simp only [Bool.true_and, Bool.and_eq_true] at h
  have h2 := h.2
  unfold frI at h2
  have hlt : j < ops.toList.length := by
    rcases Nat.lt_or_ge j ops.size with h' | h'
    · simpa using h'
    · rw [Array.getElem?_eq_none h'] at hx; cases hx
  have := List.all_eq_true.1 h2 j (List.mem_range.2 hlt)
  have e : ops.toList[j]? = some x := by simpa using hx
  rw [e] at this
  simp only [Bool.or_eq_true, Bool.not_eq_true'] at this
  rcases this with ((h3 | h3) | h3) | h3
  · exact absurd (Nat.eq_of_beq_eq_true h3).symm hij
  · exact .inl h3
  · exact .inr (.inl h3)
  · exact .inr (.inr h3)
theorem fr_of {ops : Array Oper} (hR : ∀ i y, ops[i]? = some y → ∀ e ∈ y.after, Region.binds .any e = true → e.on < i) {j i : Nat} {x y : Oper} (hji : j < i) (hx : ops[j]? = some x) (hy : ops[i]? = some y) (hna : ancB ops ops.size i j = true → False) : FrOK ops j i x y := by
  have no : ∀ p q, ancL ops.toList ops.toList.length p q = true → q < p := fun p q hh => anc_lt hR _ p q (ancL_ancB _ _ _ hh)
  have an : ancL ops.toList ops.toList.length i j = true → False := fun hh => hna (by have := ancL_ancB _ _ _ hh; simpa using this)
  refine ⟨fun h => ?_, fun h => ?_⟩
  · rcases frI_spec hx hy (by omega) h with h | h | h
    · exact h
    · have := no _ _ h; omega
    · exact (an h).elim
  · rcases frI_spec hy hx (by omega) h with h | h | h
    · exact h
    · exact (an h).elim
    · have := no _ _ h; omega
theorem late_of {ops : Array Oper} {t : Nat → V} (hl : lateR ops.toList t true = true) (hR : ∀ i y, ops[i]? = some y → ∀ e ∈ y.after, Region.binds .any e = true → e.on < i) {j i : Nat} {x y : Oper} (hji : j < i) (hx : ops[j]? = some x) (hy : ops[i]? = some y) (h : lateS ops j i x y = true) : ancB ops ops.size i j = true ∨ Late ops t j i x y := by
  simp only [lateR, Bool.and_eq_true] at hl
  obtain ⟨hl, hm, hsl⟩ := hl
  have no : ∀ p q, ancL ops.toList ops.toList.length p q = true → q < p := fun p q hh => anc_lt hR _ p q (ancL_ancB _ _ _ hh)
  have an : ancL ops.toList ops.toList.length i j = true → ancB ops ops.size i j = true := fun hh => by have := ancL_ancB _ _ _ hh; simpa using this
  simp only [lateS, Bool.or_eq_true] at h
  rcases h with h | h | h
  · unfold late1 at h
    split at h
    case h_2 => cases h
    rename_i a b ha hb
    simp only [Bool.and_eq_true] at h
    obtain ⟨⟨h1, h2⟩, h2'⟩ := h
    rcases lateAll_spec ops.toList 0 hl j i x y a b hji (by simpa using hx) (by simpa using hy) ha hb with h3 | h3
    · left
      have := ancL_ancB _ _ _ h3
      simpa using this
    · exact .inr (.inl ⟨a, b, ha, hb, h1, h3, drop_dst h2, drop_dst h2'⟩)
  · have no : ∀ p q, ancL ops.toList ops.toList.length p q = true → q < p := fun p q hh => anc_lt hR _ p q (ancL_ancB _ _ _ hh)
    have an : ancL ops.toList ops.toList.length i j = true → ancB ops ops.size i j = true := fun hh => by have := ancL_ancB _ _ _ hh; simpa using this
    unfold lateM at h
    split at h
    · rename_i st ld a ha hb
      simp only [Bool.and_eq_true, Bool.not_eq_true'] at h
      obtain ⟨⟨hsl0, hap⟩, hd⟩ := h
      have hsl' : (st && ld) = false := by simpa using hsl0
      have m1 := mixAll_mem _ j st hm (by have := wL_mem ops.toList 0 j x st (by simpa using hx) ha; simpa using this)
      rcases mixOne_mem _ i ld a m1 (by have := rL_mem ops.toList 0 i y ld a (by simpa using hy) hb; simpa using this) with h3 | h3 | h3 | h3
      · rw [hsl'] at h3; cases h3
      · exact .inr (.inr (.inl ⟨hap, .inl ⟨st, ld, a, ha, hb, hsl', h3, drop_dst hd⟩⟩))
      · exact .inl (an h3)
      · have := no _ _ h3; omega
    · split at h
      · rename_i ld a st ha hb
        simp only [Bool.and_eq_true, Bool.not_eq_true'] at h
        obtain ⟨⟨hsl0, hap⟩, hd⟩ := h
        have hsl' : (st && ld) = false := by simpa using hsl0
        have m1 := mixAll_mem _ i st hm (by have := wL_mem ops.toList 0 i y st (by simpa using hy) hb; simpa using this)
        rcases mixOne_mem _ j ld a m1 (by have := rL_mem ops.toList 0 j x ld a (by simpa using hx) ha; simpa using this) with h3 | h3 | h3 | h3
        · rw [hsl'] at h3; cases h3
        · exact .inr (.inr (.inl ⟨hap, .inr ⟨st, ld, a, ha, hb, hsl', h3, drop_dst hd⟩⟩))
        · have := no _ _ h3; omega
        · exact .inl (an h3)
      · cases h
  · unfold lateL at h
    split at h
    · rename_i a b ha hb
      simp only [Bool.and_eq_true] at h
      obtain ⟨⟨hap, hd1⟩, hd2⟩ := h
      have m1 := slAll_mem _ j a hsl (by have := stL_mem ops.toList 0 j x a (by simpa using hx) ha; simpa using this)
      rcases slOne_mem _ i b m1 (by have := rL_mem ops.toList 0 i y true b (by simpa using hy) hb; simpa using this) with h3 | h3 | h3
      · exact .inr (.inr (.inr ⟨hap, .inl ⟨a, b, ha, hb, h3, drop_dst hd1, drop_dst hd2⟩⟩))
      · exact .inl (an h3)
      · have := no _ _ h3; omega
    · split at h
      · rename_i a b ha hb
        simp only [Bool.and_eq_true] at h
        obtain ⟨⟨hap, hd1⟩, hd2⟩ := h
        have m1 := slAll_mem _ i b hsl (by have := stL_mem ops.toList 0 i y b (by simpa using hy) hb; simpa using this)
        rcases slOne_mem _ j a m1 (by have := rL_mem ops.toList 0 j x true a (by simpa using hx) ha; simpa using this) with h3 | h3 | h3
        · exact .inr (.inr (.inr ⟨hap, .inr ⟨a, b, ha, hb, h3, drop_dst hd1, drop_dst hd2⟩⟩))
        · have := no _ _ h3; omega
        · exact .inl (an h3)
      · cases h

theorem stepOps_stepL {E : Env} {ops : Array Oper} {n0 m0 : Nat} : ∀ (os : List Oper) (i : Nat) (s : St), (∀ j, os[j]? = ops[i + j]?) → stepOps P E ops.toList true n0 m0 i os s = stepL P E ops n0 m0 (List.range' i os.length) s
  | [], i, s, _ => rfl
  | o :: os, i, s, hj => by
    have hi : ops[i]? = some o := by have := hj 0; simpa using this.symm
    simp only [stepOps, List.length_cons, List.range'_succ, stepL, hi]
    cases stepOp P E ops.toList true n0 m0 i o s with
    | none => rfl
    | some s1 => exact stepOps_stepL os (i + 1) s1 fun j => by have := hj (j + 1); simpa [Nat.add_assoc, Nat.add_comm 1 j] using this
end Go.Ab
end

section
set_option linter.unusedVariables false
set_option linter.unusedSimpArgs false
set_option linter.unusedSimpArgs false
set_option linter.unusedVariables false
namespace Go.Ab
open Go.RowKit
variable {P : Program}

def unl (n : Nat) (listed : Array Bool) : List Nat := (List.range n).filter fun i => !listed.getD i true
theorem range_split {n i : Nat} (h : i < n) : List.range n = List.range i ++ i :: List.range' (i + 1) (n - (i + 1)) := by
  have h1 : n = i + (n - i) := by omega
  have h2 : n - i = (n - (i + 1)) + 1 := by omega
  rw [List.range_eq_range', List.range_eq_range']
  conv => lhs; rw [h1, ← List.range'_append_1, Nat.zero_add, h2, List.range'_succ]
theorem getD_set_at {listed : Array Bool} {i : Nat} (h : i < listed.size) (b : Bool) : (listed.setIfInBounds i true).getD i b = true := by simp [h]
theorem getD_set_off {listed : Array Bool} {i k : Nat} (h : i ≠ k) (b : Bool) : (listed.setIfInBounds i true).getD k b = listed.getD k b := by
  simp only [Array.getD_eq_getD_getElem?, Array.getElem?_setIfInBounds_ne h]
theorem unl_split {n i : Nat} {listed : Array Bool} (hs : listed.size = n) (hi : i < n) (hu : listed.getD i true = false) : ∃ l1 l2, unl n listed = l1 ++ i :: l2 ∧ unl n (listed.setIfInBounds i true) = l1 ++ l2 ∧ (∀ j ∈ l1, j < i ∧ listed.getD j true = false) := by
  refine ⟨(List.range i).filter fun i => !listed.getD i true, (List.range' (i + 1) (n - (i + 1))).filter fun i => !listed.getD i true, ?_, ?_, ?_⟩
  · unfold unl
    rw [range_split hi, List.filter_append, List.filter_cons_of_pos (by simp only [hu, Bool.not_false])]
  · unfold unl
    rw [range_split hi, List.filter_append, List.filter_cons_of_neg (by rw [getD_set_at (by omega)]; simp)]
    congr 1
    · refine List.filter_congr fun j hj => ?_
      rw [getD_set_off (by simp at hj; omega)]
    · refine List.filter_congr fun j hj => ?_
      rw [getD_set_off (by simp only [List.mem_range'_1] at hj; omega)]
  · intro j hj
    simp only [List.mem_filter, List.mem_range, Bool.not_eq_true'] at hj
    exact hj
theorem getD_tf {listed : Array Bool} {i : Nat} (h : i < listed.size) (hu : listed.getD i false = false) : listed.getD i true = false := by
  simp [h] at hu ⊢; exact hu
theorem getD_ft {listed : Array Bool} {i : Nat} (hu : listed.getD i true = false) : listed.getD i false = false := by
  rcases Nat.lt_or_ge i listed.size with h | h
  · simp [h] at hu ⊢; exact hu
  · simp [h]
theorem rok_spec {ops : Array Oper} (h : rokB ops = true) {i : Nat} {y : Oper} (hi : ops[i]? = some y) : (∀ e ∈ y.after, Region.binds .any e = true → e.on < i) ∧ ∀ j, j < i → ancB ops ops.size i j = true ∨ ∃ x, ops[j]? = some x ∧ (commB ops j i x y = true ∨ lateS ops j i x y = true) := by
  have hlt : i < ops.size := by
    rcases Nat.lt_or_ge i ops.size with h' | h'
    · exact h'
    · rw [Array.getElem?_eq_none h'] at hi; cases hi
  have := List.all_eq_true.1 h i (by simpa using hlt)
  rw [hi] at this
  simp only [Bool.and_eq_true, List.all_eq_true, Bool.or_eq_true, Bool.not_eq_true', decide_eq_true_eq] at this
  refine ⟨fun e he hb => ?_, fun j hj => ?_⟩
  · rcases this.1 e (by simpa using he) with h1 | h1
    · rw [hb] at h1; cases h1
    · exact h1
  · rcases this.2 j (by simpa using hj) with h1 | h1
    · exact .inl h1
    · right
      cases hx : ops[j]? with
      | none => rw [hx] at h1; cases h1
      | some x => rw [hx] at h1; exact ⟨x, rfl, by simpa using h1⟩

/-- a region in any order -/
theorem any_ok {D : List Deferred} {L : World → Prop} {E : Env} (hE : EnvOK P L E) {ops : Array Oper} {Q : Exit → Act → World → Prop} {n0 m0 : Nat} {base : Nat} {G0 : Gh} {w0 : World} {hp0 : Hp} {N : Nat} (hL : ∀ w', Below base w0 w' → L w') (hD : dstB N ops = true) (hR : rokB ops = true) {s' : St} (hLt : lateR ops.toList s'.t true = true)
    (hQ : ∀ a' w' G', RInv D (fun _ => False) n0 m0 base G0 w0 hp0 N s' a' w' G' → Q .normal a' w') :
    ∀ (fuel : Nat) (listed : Array Bool) (s : St) (a : Act) (w : World) (G : Gh), listed.size = ops.size → ClosedL ops listed → fuel = (unl ops.size listed).length → RInv D (fun j => j < ops.size ∧ listed.getD j true = false) n0 m0 base G0 w0 hp0 N s a w G →
      stepL P E ops n0 m0 (unl ops.size listed) s = some s' → wpAny P .any ops Q fuel listed a w := by
  intro fuel
  induction fuel with
  | zero =>
    intro listed s a w G hsz hcl hf R h
    have hnil : unl ops.size listed = [] := List.eq_nil_of_length_eq_zero hf.symm
    rw [hnil] at h
    cases h
    refine ⟨?_, hQ a w G (R.less fun j hj => hj.elim)⟩
    cases hr : Region.ready .any ops listed with
    | nil => rfl
    | cons j l =>
      exfalso
      have hj : j ∈ Region.ready .any ops listed := by rw [hr]; simp
      obtain ⟨h1, o, ho, _⟩ := mem_ready.1 hj
      have hlt : j < ops.size := by
        rcases Nat.lt_or_ge j ops.size with h' | h'
        · exact h'
        · rw [Array.getElem?_eq_none h'] at ho; cases ho
      have : j ∈ unl ops.size listed := by
        unfold unl
        simp only [List.mem_filter, List.mem_range, Bool.not_eq_true']
        exact ⟨hlt, h1⟩
      rw [hnil] at this; cases this
  | succ fuel ih =>
    intro listed s a w G hsz hcl hf R h
    refine ⟨fun hr => ?_, fun i hi => ?_⟩
    · exfalso
      -- the first that has not come may come
      cases hu : unl ops.size listed with
      | nil => rw [hu] at hf; simp at hf
      | cons i l =>
        have hi : i ∈ unl ops.size listed := by rw [hu]; simp
        have hmin : ∀ j, j < i → listed.getD j true = true := by
          intro j hj
          have hi' := hi
          unfold unl at hi'
          simp only [List.mem_filter, List.mem_range, Bool.not_eq_true'] at hi'
          cases hq : listed.getD j true with
          | true => rfl
          | false =>
            exfalso
            obtain ⟨l1, l2, e1, _, e3⟩ := unl_split hsz hi'.1 hi'.2
            rw [hu] at e1
            have hjm : j ∈ l1 := by
              have : j ∈ unl ops.size listed := by
                unfold unl
                simp only [List.mem_filter, List.mem_range, Bool.not_eq_true']
                exact ⟨by omega, hq⟩
              rw [hu, e1] at this
              simp only [List.mem_append, List.mem_cons] at this
              rcases this with h1 | h1 | h1
              · exact h1
              · omega
              · exfalso
                have hsorted : (unl ops.size listed).Pairwise (· < ·) := List.Pairwise.filter _ (by rw [List.range_eq_range']; exact List.pairwise_lt_range')
                rw [hu, e1] at hsorted
                have := (List.pairwise_append.1 hsorted).2.1
                rw [List.pairwise_cons] at this
                have := this.1 j h1
                omega
            cases l1 with
            | nil => cases hjm
            | cons k l1 =>
              simp only [List.cons_append, List.cons.injEq] at e1
              have := (e3 k (by simp)).1
              omega
        have hi' := hi
        unfold unl at hi'
        simp only [List.mem_filter, List.mem_range, Bool.not_eq_true'] at hi'
        have ho : ops[i]? = some ops[i] := Array.getElem?_eq_getElem hi'.1
        have hrd : i ∈ Region.ready .any ops listed := mem_ready.2 ⟨hi'.2, _, ho, fun e he hb => by
          have hlt := (rok_spec hR ho).1 e he hb
          have := hmin e.on hlt
          have hes : e.on < listed.size := by omega
          simp [hes] at this ⊢; exact this⟩
        rw [hr] at hrd; cases hrd
    · obtain ⟨h1, o, ho, hp⟩ := mem_ready.1 hi
      have hlt : i < ops.size := by
        rcases Nat.lt_or_ge i ops.size with h' | h'
        · exact h'
        · rw [Array.getElem?_eq_none h'] at ho; cases ho
      obtain ⟨l1, l2, e1, e2, e3⟩ := unl_split hsz hlt h1
      rw [e1] at h
      have hsorted : (l1 ++ i :: l2).Pairwise (· < ·) := by
        rw [← e1]
        exact List.Pairwise.filter _ (by rw [List.range_eq_range']; exact List.pairwise_lt_range')
      have hanc : ∀ j ∈ l1, ancB ops ops.size i j = true → False := fun j hj h2 => by
        have := anc_listed hcl ops.size i j (fun o' ho' e he hb => by rw [ho] at ho'; cases ho'; exact hp e he hb) h2
        rw [getD_ft (e3 j hj).2] at this; cases this
      obtain ⟨s1, g1, g2⟩ := stepL_front ho l1 l2 s s' hsorted (fun j hj => ⟨by have := (e3 j hj).1; omega, fun oj hoj => by
        rcases (rok_spec hR ho).2 j (e3 j hj).1 with h2 | ⟨x, hx, hc | hc⟩
        · exact (hanc j hj h2).elim
        · rw [hoj] at hx; cases hx; exact .inl hc
        · rw [hoj] at hx; cases hx
          rcases late_of hLt (fun i y hy => (rok_spec hR hy).1) (e3 j hj).1 hoj ho hc with h2 | h2
          · exact (hanc j hj h2).elim
          · exact .inr h2⟩) (fun j hj oj hoj => fr_of (fun i y hy => (rok_spec hR hy).1) (e3 j hj).1 hoj ho (hanc j hj)) h
      refine stepOp_ok hE hL R (i := i) ⟨hlt, h1⟩ ho (dstB_spec hD ho) g1 fun a' w' G' R' => ?_
      refine ih (listed.setIfInBounds i true) s1 a' w' G' (by simp [hsz]) ?_ ?_ (R'.less ?_) (by rw [e2]; exact g2)
      · intro k ok hk hl e he hb
        by_cases hki : k = i
        · subst hki
          rw [ho] at hk; cases hk
          have := hp e he hb
          by_cases hee : k = e.on
          · rw [← hee, getD_set_at (by omega)]
          · rw [getD_set_off hee]; exact this
        · rw [getD_set_off (Ne.symm hki)] at hl
          have := hcl k ok hk hl e he hb
          by_cases hee : i = e.on
          · rw [← hee, getD_set_at (by omega)]
          · rw [getD_set_off hee]; exact this
      · rw [e2]; rw [e1] at hf; simp at hf ⊢; omega
      · rintro j ⟨hj, hu⟩
        by_cases hji : j = i
        · subst hji; rw [getD_set_at (by omega)] at hu; cases hu
        · rw [getD_set_off (Ne.symm hji)] at hu; exact ⟨⟨hj, hu⟩, hji⟩
end Go.Ab
end

section
set_option linter.unusedVariables false
set_option linter.unusedSimpArgs false
set_option linter.unusedSimpArgs false
set_option linter.unusedVariables false
namespace Go.Ab
open Go.RowKit
variable {P : Program}

def okCode (N : Nat) : Code → Bool
  | .skip | .label _ | .exit _ | .ret => true
  | .region _ ops d => dstB N ops && (!d || rokB ops)
  | .seq a b | .cond _ a b => okCode N a && okCode N b
  | .block _ c | .loop c | .scope c => okCode N c
  | _ => false
def toExit : Ex → Exit
  | .normal => .normal
  | .exit i => .exit i
  | .ret => .ret

structure CInv (D : List Deferred) (base : Nat) (G0 : Gh) (w0 : World) (hp0 : Hp) (N : Nat) (s : St) (a : Act) (w : World) (G : Gh) : Prop where
  inv : FInv base G0 w0 hp0 G s.hp w
  t : TOK G w s.t a.tmps
  d : a.defers = D
  N : a.tmps.size = N

theorem FInv.elder {base : Nat} {G0 : Gh} {w0 : World} {hp0 : Hp} {G : Gh} {hp : Hp} {w w' : World} (h : FInv base G0 w0 hp0 G hp w) (e : Elder w w') : FInv base G0 w0 hp0 G hp w' ∧ Grow G w G w' := by
  obtain ⟨ow, hs⟩ := h.sim
  have hg := e.grow hs
  exact ⟨⟨⟨ow, hs.elder e⟩, h.grow.trans hg, h.below.trans (Below.mono e h.lb), Nat.le_trans h.lb e.size, h.fb, h.fa, h.n, h.m, h.eb, h.ea, h.f0, h.s0⟩, hg⟩
theorem FInv.bump {base : Nat} {G0 : Gh} {w0 : World} {hp0 : Hp} {G : Gh} {hp : Hp} {w : World} (h : FInv base G0 w0 hp0 G hp w) (k : Nat) : FInv base G0 w0 hp0 G { hp with n := hp.n + k, m := hp.m + k } w := by
  obtain ⟨ow, hs⟩ := h.sim
  exact ⟨⟨ow, hs.S, hs.box, hs.arr⟩, h.grow, h.below, h.lb, fun b hb => h.fb b (by simp only at hb; omega), fun i hi => h.fa i (by simp only at hi; omega), by have := h.n; simp only; omega, by have := h.m; simp only; omega, h.eb, h.ea, h.f0, h.s0⟩

/-! ### what a round leaves behind -/
def Gh.cut (G : Gh) (n : Nat) : Gh := { G with rb := fun b => if b < n then G.rb b else none }
def flatV : V → Bool
  | .agg _ | .fn _ _ | .tup _ | .ifc _ _ | .ref _ _ => false
  | _ => true
theorem flat_ok {G G' : Gh} {w : World} (hra : ∀ i v, G'.ra i v = G.ra i v) (hS : G'.S = G.S) : ∀ (v : V) (x : Value), flatV v = true → VR G w v x → VR G' w v x := by
  have hpu : G'.pu = G.pu := by unfold Gh.pu; rw [hS]
  intro v x hf hx
  cases v <;> simp only [flatV, Bool.false_eq_true] at hf <;> simp only [VR] at hx ⊢
  all_goals first | exact hx | (rw [hpu]; exact hx) | skip
  case aref a v o => obtain ⟨r, z, C, h1, h2⟩ := hx; exact ⟨r, z, C, by rw [hra]; exact h1, h2⟩
  case rsl c a v o n => obtain ⟨r, z, C, o', cap, h1, h2⟩ := hx; exact ⟨r, z, C, o', cap, by rw [hra]; exact h1, h2⟩
def clean1 (n : Nat) : V → V
  | .ref b o => if b < n then .ref b o else .bad
  | .agg _ | .fn _ _ | .tup _ | .ifc _ _ => .bad
  | v => v
theorem clean1_ok {G : Gh} {w : World} (n : Nat) (v : V) (x : Value) (h : VR G w v x) : VR (G.cut n) w (clean1 n v) x := by
  cases v
  case ref b o =>
    simp only [clean1]
    split
    · rename_i hb
      obtain ⟨r, h1, h2⟩ := h
      exact ⟨r, by simp [Gh.cut, hb, h1], h2⟩
    · simp [VR]
  case agg cs => simp [clean1, VR]
  case fn f c => simp [clean1, VR]
  case tup cs => simp [clean1, VR]
  case ifc t cs => simp [clean1, VR]
  all_goals exact flat_ok (fun _ _ => rfl) rfl _ _ rfl h
theorem clean1_list {G : Gh} {w : World} (n : Nat) : ∀ (vs : List V) (l : List Value), VRs G w vs l → VRs (G.cut n) w (vs.map (clean1 n)) l
  | [], l, h => h
  | v :: vs, l, h => by
    obtain ⟨x, xs, rfl, h1, h2⟩ := h
    exact ⟨x, xs, rfl, clean1_ok n v x h1, clean1_list n vs xs h2⟩
theorem clean_map (n : Nat) (cs : List V) : (cs.map fun v => match v with | .ref b o => if b < n then .ref b o else .bad | .agg _ | .fn _ _ | .tup _ | .ifc _ _ => .bad | v => v) = cs.map (clean1 n) :=
  List.map_congr_left fun v _ => by cases v <;> rfl
theorem clean_ok {G : Gh} {w : World} (n : Nat) (v : V) (x : Value) (h : VR G w v x) : VR (G.cut n) w (cleanV n v) x := by
  cases v
  case ref b o => exact clean1_ok n (.ref b o) x h
  case agg cs =>
    simp only [cleanV, clean_map]
    obtain ⟨arr, h1, h2, h3⟩ := h
    exact ⟨arr, h1, h2, clean1_list n cs _ h3⟩
  case tup cs =>
    simp only [cleanV, clean_map]
    obtain ⟨arr, h1, h2⟩ := h
    exact ⟨arr, h1, clean1_list n cs _ h2⟩
  case ifc t cs =>
    simp only [cleanV, clean_map]
    obtain ⟨y, h1, h2⟩ := h
    exact ⟨y, h1, clean1_list n cs _ h2⟩
  case fn f cap =>
    simp only [cleanV]
    split
    · rename_i hall
      obtain ⟨c, h1, h2⟩ := h
      refine ⟨c, h1, ?_⟩
      have : cap.map (clean1 n) = cap := by
        conv => rhs; rw [← List.map_id cap]
        refine List.map_congr_left fun v hv => ?_
        have := List.all_eq_true.1 hall v hv
        cases v <;> simp at this <;> simp [clean1, this]
      have hh := clean1_list n cap _ h2
      rw [this] at hh; exact hh
    · simp [VR]
  all_goals exact flat_ok (fun _ _ => rfl) rfl _ _ rfl h
theorem clean_list {G : Gh} {w : World} (n : Nat) : ∀ (vs : List V) (l : List Value), VRs G w vs l → VRs (G.cut n) w (vs.map (cleanV n)) l
  | [], l, h => h
  | v :: vs, l, h => by
    obtain ⟨x, xs, rfl, h1, h2⟩ := h
    exact ⟨x, xs, rfl, clean_ok n v x h1, clean_list n vs xs h2⟩

theorem trunc_ok {D : List Deferred} {base : Nat} {G0 : Gh} {w0 : World} {hp0 : Hp} {N : Nat} {s : St} {a : Act} {w : World} {G : Gh} (h : CInv D base G0 w0 hp0 N s a w G) {n : Nat} (h0 : hp0.n ≤ n) : CInv D base G0 w0 hp0 N (s.trunc n) a w (G.cut n) := by
  obtain ⟨ow, hs⟩ := h.inv.sim
  refine ⟨⟨⟨ow, hs.S, fun b x hb => ?_, fun i A hA => ?_⟩, ?_, h.inv.below, h.inv.lb, fun b hb => ?_, h.inv.fa, h0, h.inv.m, fun b hb => ?_, h.inv.ea, h.inv.f0, h.inv.s0⟩, fun i => clean_ok n _ _ (h.t i), h.d, h.N⟩
  · simp only [St.trunc] at hb
    split at hb <;> try cases hb
    rename_i hbn
    split at hb <;> cases hb
    rename_i y hy
    obtain ⟨r, k1, k2, k3, k4⟩ := hs.box b y hy
    refine ⟨r, by simp [Gh.cut, hbn, k1], k2, k3, ?_⟩
    cases y with
    | cells cs ro =>
      obtain ⟨arr, ty, g1, g2, g3, g4⟩ := k4
      exact ⟨arr, ty, g1, clean_list n cs _ g2, g3, g4⟩
    | iter s' p => exact k4
  · simp only [St.trunc] at hA
    split at hA <;> cases hA
    rename_i A' hA'
    obtain ⟨r, C, k1, k2, k3, k4, k5⟩ := hs.arr i A' hA'
    obtain ⟨arr, ty, g1, g2, g3, g4, g5, g6, g7, g8⟩ := k4
    refine ⟨r, C, k1, k2, k3, ⟨arr, ty, g1, g2, by simpa using g3, ?_, g5, fun m hm => by have := g6 m hm; simpa using this, g7, by simpa using g8⟩, k5⟩
    have := clean_list n _ _ g4
    simpa using this
  · refine ⟨fun b r hr => ?_, h.inv.grow.ra, h.inv.grow.S, h.inv.grow.agree⟩
    have hlt : b < hp0.n := by
      rcases Nat.lt_or_ge b hp0.n with h' | h'
      · exact h'
      · rw [h.inv.f0 b h'] at hr; cases hr
    show (if b < n then G.rb b else none) = some r
    rw [if_pos (by omega)]
    exact h.inv.grow.rb b r hr
  · show (if b < n then G.rb b else none) = none
    rw [if_neg (by simp only [St.trunc] at hb; omega)]
  · show (if b < n then G.rb b else none) = G0.rb b
    rw [if_pos (by omega)]
    exact h.inv.eb b hb

theorem loopN_ok {D : List Deferred} {Q : Exit → Act → World → Prop} {c : Code} {body : St → Option (Ex × St)} {base : Nat} {G0 : Gh} {w0 : World} {hp0 : Hp} {N n : Nat} (hn : hp0.n ≤ n)
    (hb : ∀ s a w G ex s', CInv D base G0 w0 hp0 N s a w G → body s = some (ex, s') → c.wp P (fun e a' w' => e = toExit ex ∧ ∃ G', CInv D base G0 w0 hp0 N s' a' w' G') a w) :
    ∀ (k : Nat) (s : St) (a : Act) (w : World) (G : Gh) (ex : Ex) (s' : St), CInv D base G0 w0 hp0 N s a w G → loopN body n k s = some (ex, s') → (∀ a' w' G', CInv D base G0 w0 hp0 N s' a' w' G' → Q (toExit ex) a' w') → Code.rounds P c Q k a w
  | 0, s, a, w, G, ex, s', h, hl, hQ => by cases hl
  | k + 1, s, a, w, G, ex, s', h, hl, hQ => by
    rw [rounds_succ]
    simp only [loopN] at hl
    cases hbs : body s with
    | none => rw [hbs] at hl; cases hl
    | some p =>
      obtain ⟨ex1, s1⟩ := p
      refine wp_mono (hb s a w G ex1 s1 h hbs) ?_
      rintro e a' w' ⟨rfl, G', h'⟩
      rw [hbs] at hl
      cases ex1 with
      | normal =>
        simp only at hl
        exact loopN_ok hn hb k _ a' w' _ ex s' (trunc_ok h' hn) hl hQ
      | exit i => cases hl; exact hQ a' w' G' h'
      | ret => cases hl; exact hQ a' w' G' h'

/-- the code comes to what the evaluator says -/
theorem code_ok {D : List Deferred} {L : World → Prop} {E : Env} (hE : EnvOK P L E) (hm : P.follows .mixedOrders = true) {base : Nat} {G0 : Gh} {w0 : World} {hp0 : Hp} {N M : Nat} (hNM : M ≤ N) (hL : ∀ w', Below base w0 w' → L w') (lf : Nat) :
    ∀ (c : Code) (s : St) (a : Act) (w : World) (G : Gh) (ex : Ex) (s' : St), okCode M c = true → CInv D base G0 w0 hp0 N s a w G → evalCode P E lf c s = some (ex, s') →
      c.wp P (fun e a' w' => e = toExit ex ∧ ∃ G', CInv D base G0 w0 hp0 N s' a' w' G') a w
  | .skip, s, a, w, G, ex, s', _, h, he => by cases he; exact wp_skip ⟨rfl, G, h⟩
  | .label l, s, a, w, G, ex, s', _, h, he => by cases he; exact wp_label ⟨rfl, G, h⟩
  | .exit i, s, a, w, G, ex, s', _, h, he => by cases he; exact wp_exit ⟨rfl, G, h⟩
  | .ret, s, a, w, G, ex, s', _, h, he => by cases he; exact wp_ret ⟨rfl, G, h⟩
  | .region id ops d, s, a, w, G, ex, s', hk, h, he => by
    simp only [okCode, Bool.and_eq_true, Bool.or_eq_true, Bool.not_eq_true'] at hk
    obtain ⟨hD, hR⟩ := hk
    have hD' : dstB N ops = true := by
      unfold dstB at hD ⊢
      rw [List.all_eq_true] at hD ⊢
      intro o ho
      have := hD o ho
      cases hd : o.dst with
      | none => rfl
      | some d => simp only [hd, decide_eq_true_eq] at this ⊢; exact Nat.lt_of_lt_of_le this hNM
    simp only [evalCode] at he
    cases hs : stepRegion P E ops.toList d s with
    | none => rw [hs] at he; cases he
    | some s1 =>
    rw [hs] at he
    cases he
    unfold stepRegion at hs
    split at hs <;> try cases hs
    rename_i s1' hs
    split at hs <;> try cases hs
    rename_i hLt
    rename_i hs
    have hlen : ops.toList.length = ops.size := by simp
    have hbump := h.inv.bump ops.toList.length
    have hR0 : ∀ (U : Nat → Prop), (∀ j, U j → j < ops.size) → ∀ w1, Elder w w1 → ∃ G1, RInv D U s.hp.n s.hp.m base G0 w0 hp0 N (s.bump ops.toList.length) a w1 G1 := by
      intro U hU w1 e
      obtain ⟨k1, k2⟩ := hbump.elder e
      exact ⟨G, k1, h.t.mono k2, h.d, h.N, h.inv.n, h.inv.m, fun j hj => ⟨by have := hU j hj; simp only [St.bump]; omega, h.inv.fb _ (by omega)⟩, fun j hj => ⟨by have := hU j hj; simp only [St.bump]; omega, h.inv.fa _ (by omega)⟩⟩
    have hfin : ∀ a' w' G', RInv D (fun _ => False) s.hp.n s.hp.m base G0 w0 hp0 N s' a' w' G' → (Exit.normal = toExit .normal ∧ ∃ G', CInv D base G0 w0 hp0 N s' a' w' G') := fun a' w' G' R => ⟨rfl, G', R.inv, R.t, R.d, R.N⟩
    cases d with
    | false =>
      obtain ⟨G1, R⟩ := hR0 (fun j => 0 ≤ j ∧ j < 0 + ops.toList.length) (fun j hj => by omega) w (Elder.refl w)
      have := ops_ok hE (Q := fun e a' w' => e = toExit .normal ∧ ∃ G', CInv D base G0 w0 hp0 N s' a' w' G') hL hD' hfin ops.toList 0 _ a w G1 (by simp) R hs
      refine wp_region ?_
      rw [List.range_eq_range', ← hlen]; exact this
    | true =>
      have hR' : rokB ops = true := by rcases hR with h1 | h1; cases h1; exact h1
      obtain ⟨G1, R⟩ := hR0 (fun j => j < ops.size ∧ (Array.replicate ops.size false).getD j true = false) (fun j hj => hj.1) { w with drawn := w.drawn + 1 } (Elder.drew w)
      have hun : unl ops.size (Array.replicate ops.size false) = List.range' 0 ops.toList.length := by
        unfold unl
        rw [List.filter_eq_self.2, List.range_eq_range', hlen]
        intro j hj
        simp only [List.mem_range] at hj
        simp [hj]
      refine wp_region_any hm (any_ok hE hL hD' hR' hLt hfin ops.size _ _ a _ G1 (by simp) ?_ ?_ R ?_)
      · intro k o hk hl
        exfalso
        rcases Nat.lt_or_ge k ops.size with h' | h'
        · simp [h'] at hl
        · simp [h'] at hl
      · rw [hun]; simp
      · rw [hun, ← stepOps_stepL _ 0 _ (by simp)]; exact hs
  | .seq x y, s, a, w, G, ex, s', hk, h, he => by
    simp only [okCode, Bool.and_eq_true] at hk
    simp only [evalCode] at he
    cases h1 : evalCode P E lf x s with
    | none => rw [h1] at he; cases he
    | some p =>
      obtain ⟨ex1, s1⟩ := p
      rw [h1] at he
      refine wp_seq (wp_mono (code_ok hE hm hNM hL lf x s a w G ex1 s1 hk.1 h h1) ?_)
      rintro e a' w' ⟨rfl, G', h'⟩
      cases ex1 with
      | normal => exact code_ok hE hm hNM hL lf y s1 a' w' G' ex s' hk.2 h' he
      | exit i => cases he; exact ⟨rfl, G', h'⟩
      | ret => cases he; exact ⟨rfl, G', h'⟩
  | .cond c x y, s, a, w, G, ex, s', hk, h, he => by
    simp only [okCode, Bool.and_eq_true] at hk
    simp only [evalCode] at he
    have hc := eval_ok h.t c
    split at he <;> try cases he
    · rename_i hv; rw [hv] at hc; simp only [VR] at hc
      exact wp_cond_true hc (code_ok hE hm hNM hL lf x s a w G ex s' hk.1 h he)
    · rename_i hv; rw [hv] at hc; simp only [VR] at hc
      exact wp_cond_false hc (code_ok hE hm hNM hL lf y s a w G ex s' hk.2 h he)
  | .block id c, s, a, w, G, ex, s', hk, h, he => by
    simp only [evalCode] at he
    cases h1 : evalCode P E lf c s with
    | none => rw [h1] at he; cases he
    | some p =>
      obtain ⟨ex1, s1⟩ := p
      rw [h1] at he
      refine wp_block (wp_mono (code_ok hE hm hNM hL lf c s a w G ex1 s1 hk h h1) ?_)
      rintro e a' w' ⟨rfl, G', h'⟩
      cases ex1 with
      | normal => cases he; exact ⟨rfl, G', h'⟩
      | ret => cases he; exact ⟨rfl, G', h'⟩
      | exit i =>
        simp only at he
        simp only [toExit, Exit.inBlock]
        split at he <;> cases he
        · rw [if_pos ‹_›]; exact ⟨rfl, G', h'⟩
        · rw [if_neg ‹_›]; exact ⟨rfl, G', h'⟩
  | .loop c, s, a, w, G, ex, s', hk, h, he => by
    simp only [evalCode] at he
    refine wp_loop_rounds lf (loopN_ok (n := s.hp.n) h.inv.n (fun s a w G ex s' h he => code_ok hE hm hNM hL lf c s a w G ex s' hk h he) lf s a w G ex s' h he ?_)
    intro a' w' G' h'
    exact ⟨rfl, G', h'⟩
  | .scope c, s, a, w, G, ex, s', hk, h, he => by
    simp only [evalCode] at he
    refine wp_scope_straight (wp_mono (code_ok hE hm hNM hL lf c s a w G ex s' hk h he) ?_)
    rintro e a' w' ⟨rfl, G', h'⟩
    cases ex <;> exact ⟨rfl, G', h'⟩
  | .rangeFunc _ _ _ _, _, _, _, _, _, _, hk, _, _ => by cases hk
  | .goto _, _, _, _, _, _, _, hk, _, _ => by cases hk
  | .refuse _, _, _, _, _, _, _, hk, _, _ => by cases hk
end Go.Ab
end

section
set_option linter.unusedVariables false
set_option linter.unusedSimpArgs false
set_option linter.unusedSimpArgs false
set_option linter.unusedVariables false
namespace Go.Ab
open Go.RowKit
variable {P : Program}

/-- the functions of the table are of the kind that the evaluator speaks of -/
def OKF (P : Program) (okF : Nat → Bool) : Prop := ∀ f fn body, okF f = true → P.funcs[f]? = some fn → fn.body = some body → okCode fn.ntmps body = true ∧ fn.name ≠ "runtime.NumGoroutine"
/-- the externals' contracts -/
def EXT (P : Program) (L : World → Prop) (ext : Exts) : Prop := ∀ f g as r, ext f = some g → g as = some r → Goes P f ∧ PureC P L f as r

theorem resOne_ok {base : Nat} {G0 : Gh} {w0 : World} {hp0 : Hp} {N : Nat} {s : St} {a : Act} {w : World} {G : Gh} (h : CInv [] base G0 w0 hp0 N s a w G) {rv : ResultVar} {v : V} (hr : resOne P s rv = some v) :
    ∃ x, ((match rv with | .tmp t => pure (a.tmps.getD t undef) | .cell a' t => do loadVar t (← asAddr (a.tmps.getD a' undef)) : Sem Value)).run P w = .ok x w ∧ VR G w v x := by
  obtain ⟨ow, hs⟩ := h.inv.sim
  cases rv with
  | tmp t => cases hr; exact ⟨_, rfl, h.t t⟩
  | cell p t =>
    simp only [resOne] at hr
    obtain ⟨cs, h1, h2⟩ := Option.bind_eq_some_iff.1 hr
    obtain ⟨r, o, ys, e, g1, g2, g3, g4⟩ := look_cells hs h1 (h.t p)
    obtain ⟨y, k1, k2⟩ := run_load_look (P := P) g2 g4 g3 g1 h2
    exact ⟨y, by simp only [e, asAddr]; simpa using k1, k2⟩
theorem resL_ok {base : Nat} {G0 : Gh} {w0 : World} {hp0 : Hp} {N : Nat} {s : St} {a : Act} {w : World} {G : Gh} (h : CInv [] base G0 w0 hp0 N s a w G) : ∀ (rs : List ResultVar) (vs : List V), resL P s rs = some vs →
    ∃ xs, (rs.mapM fun rv => (match rv with | .tmp t => pure (a.tmps.getD t undef) | .cell a' t => do loadVar t (← asAddr (a.tmps.getD a' undef)) : Sem Value)).run P w = .ok xs w ∧ VRs G w vs xs
  | [], vs, hr => by cases hr; exact ⟨[], by simp, rfl⟩
  | r :: rs, vs, hr => by
    simp only [resL] at hr
    cases h1 : resOne P s r with
    | none => rw [h1] at hr; cases hr
    | some v =>
      rw [h1] at hr
      simp only at hr
      cases h2 : resL P s rs with
      | none => rw [h2] at hr; cases hr
      | some us =>
        rw [h2] at hr
        cases hr
        obtain ⟨x, k1, k2⟩ := resOne_ok h h1
        obtain ⟨xs, k3, k4⟩ := resL_ok h rs us h2
        refine ⟨x :: xs, ?_, ⟨x, xs, rfl, k2, k4⟩⟩
        rw [List.mapM_cons]
        simp only [Sem.run_bind, k1, Result.andThen_ok, k3]
        rfl
theorem resOf_ok {base : Nat} {G0 : Gh} {w0 : World} {hp0 : Hp} {N : Nat} {s : St} {a : Act} {w : World} {G : Gh} (h : CInv [] base G0 w0 hp0 N s a w G) {fn : Func} {v : V} (hr : resOf P fn s = some v) :
    ∃ x, (results fn a.tmps).run P w = .ok x w ∧ VR G w v x := by
  unfold resOf at hr
  cases h1 : resL P s fn.results.toList with
  | none => rw [h1] at hr; cases hr
  | some vs =>
    rw [h1] at hr
    obtain ⟨xs, k1, k2⟩ := resL_ok h _ _ h1
    have hrun : (results fn a.tmps).run P w = .ok (if h : xs.toArray.size = 1 then xs.toArray[0] else .tuple xs.toArray) w := by
      unfold results
      rw [Array.mapM_eq_mapM_toList]
      simp only [Sem.run_bind, Sem.run_map]
      erw [k1]
      rfl
    rw [hrun]
    refine ⟨_, rfl, ?_⟩
    have hl := k2.length
    match vs, hr with
    | [v'], hr =>
      cases hr
      obtain ⟨x, xs', rfl, k3, k4⟩ := k2
      simp only [VRs] at k4
      subst k4
      simpa using k3
    | [], hr => cases hr; simp only [VRs] at k2; subst k2; exact ⟨#[], rfl, rfl⟩
    | u :: u' :: us, hr =>
      cases hr
      rw [dif_neg (by simp [hl])]
      exact ⟨_, rfl, by simpa using k2⟩

theorem init_ok {G : Gh} {w : World} {as : List V} {xs : Array Value} (h : VRs G w as xs.toList) (n : Nat) : TOK G w (init as) (xs ++ Array.replicate n undef) := by
  intro i
  have hl := h.length
  unfold init
  cases hv : as[i]? with
  | some v =>
    obtain ⟨x, h1, h2⟩ := h.get i v hv
    have hlt : i < xs.size := by
      rcases Nat.lt_or_ge i as.length with h' | h'
      · simp at hl; omega
      · rw [List.getElem?_eq_none h'] at hv; cases hv
    have : (xs ++ Array.replicate n undef).getD i undef = x := by
      rw [Array.getD_eq_getD_getElem?, Array.getElem?_append_left hlt]
      simp at h1
      rw [h1]; rfl
    rw [this]; exact h2
  | none =>
    have hge : as.length ≤ i := List.getElem?_eq_none_iff.1 hv
    have : (xs ++ Array.replicate n undef).getD i undef = undef := by
      rw [Array.getD_eq_getD_getElem?, Array.getElem?_append_right (by simp at hl; omega)]
      by_cases h' : i - xs.size < n
      · simp [h']
      · simp [h']
    rw [this]; exact undef_ok G w

/-- the same of functions that are handed boxes and arrays -/
def EXTR (P : Program) (L : World → Prop) (okF : Nat → Bool) (extR : ExtsR) : Prop := ∀ f g as hp r hp', okF f = false → extR f = some g → g as hp = some (r, hp') → Goes P f ∧ RefC P L f as hp r hp'
theorem evalR_ok {L : World → Prop} (hLB : ∀ w w', L w → Below w.heap.size w w' → L w') (hm : P.follows .mixedOrders = true) {okF : Nat → Bool} {ext : Exts} {extR : ExtsR} {byref : Nat → Bool} (hok : OKF P okF) (hext : EXT P L ext) (hextR : EXTR P L okF extR) :
    ∀ (k : Nat) (f : Nat) (as : List V) (hp : Hp) (r : V) (hp' : Hp), evalR P okF ext extR byref k f as hp = some (r, hp') → Goes P f ∧ RefC P L f as hp r hp' := by
  intro k
  induction k with
  | zero => intro f as hp r hp' h; cases h
  | succ k ih =>
    intro f as hp r hp' h
    have hE : EnvOK P L ⟨dataCall ext (evalR P okF ext extR byref k), evalR P okF ext extR byref k, byref⟩ := by
      refine ⟨fun f as r h => ?_, ih⟩
      simp only [dataCall] at h
      cases he : ext f with
      | some g => rw [he] at h; exact hext f g as r he h
      | none =>
        rw [he] at h
        simp only at h
        cases hR : evalR P okF ext extR byref k f as Hp.empty with
        | none => rw [hR] at h; cases h
        | some p =>
          obtain ⟨r0, hp1⟩ := p
          rw [hR] at h
          simp only at h
          cases hz : fz 6 hp1 r0 with
          | none => rw [hz] at h; cases h
          | some p2 =>
            obtain ⟨r1, hp2⟩ := p2
            rw [hz] at h
            cases h
            obtain ⟨hgo, href⟩ := ih f as Hp.empty r0 hp1 hR
            refine ⟨hgo, fun S w xs hLw hS hxs => ?_⟩
            refine (href w.heap.size (stab S) w xs (fun w' hw' => hLB w w' hLw hw') ⟨fun _ => none, hS, fun b x hb => (by cases hb), fun i A hA => (by cases hA)⟩ (Nat.le_refl _) (fun _ _ => rfl) (fun _ _ _ => rfl) hxs).mono ?_
            rintro e w' ⟨x, G', rfl, inv, hv⟩
            obtain ⟨ow, hs⟩ := inv.sim
            obtain ⟨G2, F, hv2⟩ := fz_ok 6 G' hp1 r0 r hp2 x hz hs hv
            refine ⟨x, G2.S, rfl, inv.below, fun q o hq => F.grow.S q o (inv.grow.S q o hq), fun q o hq => ⟨F.sim.S q o hq, fun hlt => ?_⟩, hv2⟩
            exact inv.s0 q o (F.s0 q o hq hlt) hlt
    simp only [evalR] at h
    split at h
    · rename_i hokf
      cases hg : extR f with
      | none => rw [hg] at h; cases h
      | some g => rw [hg] at h; exact hextR f g as hp r hp' hokf hg h
    rename_i hokf
    cases hfn : P.funcs[f]? with
    | none => rw [hfn] at h; cases h
    | some fn =>
    rw [hfn] at h
    simp only at h
    cases hbd : fn.body with
    | none => rw [hbd] at h; cases h
    | some body =>
    rw [hbd] at h
    simp only at h
    obtain ⟨ok1, ok2⟩ := hok f fn body (by simpa using hokf) hfn hbd
    refine ⟨⟨fn, hfn, by rw [hbd]; rfl, ok2⟩, fun base G w xs hL hs hB hfb hfa hxs => ?_⟩
    cases hev : evalCode P ⟨dataCall ext (evalR P okF ext extR byref k), evalR P okF ext extR byref k, byref⟩ k body ⟨init as, hp⟩ with
    | none => rw [hev] at h; cases h
    | some p =>
    obtain ⟨ex, s1⟩ := p
    rw [hev] at h
    refine calls_of_wp hfn hbd ?_
    have hN : fn.ntmps ≤ (xs ++ Array.replicate (fn.ntmps - xs.size) undef).size := by simp; omega
    have hC : CInv [] base G w hp (xs ++ Array.replicate (fn.ntmps - xs.size) undef).size ⟨init as, hp⟩ { tmps := xs ++ Array.replicate (fn.ntmps - xs.size) undef, defers := [] } w G :=
      ⟨⟨hs, Grow.refl _ _, Below.refl _ _, hB, hfb, hfa, Nat.le_refl _, Nat.le_refl _, fun _ _ => rfl, fun _ _ h => h, hfb, fun _ _ h _ => h⟩, init_ok hxs _, rfl, rfl⟩
    refine wp_mono (code_ok hE hm hN hL k body _ _ w G ex s1 ok1 hC hev) ?_
    rintro e a' w' ⟨rfl, G', h'⟩
    cases ex with
    | exit i => cases h
    | normal =>
      simp only at h
      cases hr : resOf P fn s1 with
      | none => rw [hr] at h; cases h
      | some r' =>
        rw [hr] at h; cases h
        obtain ⟨x, k1, k2⟩ := resOf_ok h' hr
        exact ⟨h'.d, x, k1, x, G', rfl, h'.inv, k2⟩
    | ret =>
      simp only at h
      cases hr : resOf P fn s1 with
      | none => rw [hr] at h; cases h
      | some r' =>
        rw [hr] at h; cases h
        obtain ⟨x, k1, k2⟩ := resOf_ok h' hr
        exact ⟨h'.d, x, k1, x, G', rfl, h'.inv, k2⟩
end Go.Ab
end

section
set_option linter.unusedVariables false
set_option linter.unusedSimpArgs false
set_option linter.unusedSimpArgs false
set_option linter.unusedVariables false
namespace Go.Ab

structure Cfg where
  P : Program
  okF : Nat → Bool
  ext : Exts
  extR : ExtsR
  byref : Nat → Bool
def Cfg.R (C : Cfg) (k : Nat) : CallR := evalR C.P C.okF C.ext C.extR C.byref k
def Cfg.call (C : Cfg) (k : Nat) : Call := dataCall C.ext (C.R k)
def Cfg.env (C : Cfg) (k : Nat) : Env := ⟨C.call k, C.R k, C.byref⟩
/-- function f makes r of these arguments -/
structure Cfg.Ev (C : Cfg) (f : Nat) (as : List V) (r : V) : Prop where
  out : ∃ K, ∀ k, K ≤ k → C.call k f as = some r
structure Cfg.EvR (C : Cfg) (f : Nat) (as : List V) (hp : Hp) (r : V) (hp' : Hp) : Prop where
  out : ∃ K, ∀ k, K ≤ k → C.R k f as hp = some (r, hp')

/-! ### the evaluator, told as what is to be shown -/
def sel (t : Bool) (A B : Prop) : Prop := match t with | true => A | false => B
theorem sel_split {t : Bool} {A B : Prop} (h1 : t = true → A) (h2 : t = false → B) : sel t A B := by cases t; exact h2 rfl; exact h1 rfl
theorem sel_out {t : Bool} {A B : Prop} (h : sel t A B) : (t = true → A) ∧ (t = false → B) := by
  cases t
  · exact ⟨fun h => (by cases h), fun _ => h⟩
  · exact ⟨fun _ => h, fun h => (by cases h)⟩

def fv (v : V) (Q : V → Prop) : Prop :=
  match v with
  | .bad => Q .bad
  | .bool b => Q (.bool b)
  | .int k n => Q (.int k n)
  | .str s => Q (.str s)
  | .sl c cs n => Q (.sl c cs n)
  | .ptr cs o => Q (.ptr cs o)
  | .nilp => Q .nilp
  | .fn f c => Q (.fn f c)
  | .nilfn => Q .nilfn
  | .ref b o => Q (.ref b o)
  | .aref a v o => Q (.aref a v o)
  | .rsl c a v o n => Q (.rsl c a v o n)
  | .agg cs => Q (.agg cs)
  | .tup vs => Q (.tup vs)
  | .nilif => Q .nilif
  | .ifc t cs => Q (.ifc t cs)
theorem fv_eq (v : V) (Q : V → Prop) : fv v Q ↔ Q v := by cases v <;> exact Iff.rfl

def opt {α : Type} (o : Option α) (Q : α → Prop) : Prop := match o with | some x => Q x | none => False
theorem opt_ex {α : Type} {o : Option α} {Q : α → Prop} (h : opt o Q) : ∃ x, o = some x ∧ Q x := by
  cases o with
  | none => exact h.elim
  | some x => exact ⟨x, rfl, h⟩

section
variable (P : Program)
def xCore (lim : Option (Nat × Nat)) (ρ : Operand → V) (hp : Hp) (idb ida : Nat) (o : Oper) (Q : V → New → Prop) : Prop :=
  match o.op with
  | .move x => fv (ρ x) fun v => Q v .nothing
  | .assign x => fv (ρ x) fun v => Q v .nothing
  | .pick c a b => match ρ c with | .bool t => sel t (fv (ρ a) fun v => Q v .nothing) (fv (ρ b) fun v => Q v .nothing) | _ => False
  | .binOp .quo _ x y _ => match ρ x, ρ y with | .int k a, .int k' b => k = k' ∧ b ≠ 0 ∧ Q (.int k (k.wrap (a.tdiv b))) .nothing | _, _ => False
  | .binOp .rem _ x y _ => match ρ x, ρ y with | .int k a, .int k' b => k = k' ∧ b ≠ 0 ∧ Q (.int k (a.tmod b)) .nothing | _, _ => False
  | .indexAddr t x ix => opt (tslice P t) fun e => match ρ x, ρ ix with
    | .sl _ cs n, .int _ i => (0 ≤ i ∧ i < (n : Int)) ∧ Q (.ptr cs (i.toNat * tsize P e)) .nothing
    | .rsl _ b v o n, .int _ i => (0 ≤ i ∧ i < (n : Int)) ∧ Q (.aref b v (o + i.toNat * tsize P e)) .nothing
    | _, _ => False
  | .load t a => match ρ a with
    | .ptr cs o => o + tsize P t ≤ cs.length ∧ opt (one (tagg P t) (sub cs o (tsize P t))) fun v => fv v fun v => Q v .nothing
    | _ => opt (look lim hp (ρ a) (tsize P t)) fun cs => opt (one (tagg P t) cs) fun v => fv v fun v => Q v .nothing
  | .slice t x lo hi mx => sel (arrOk P lim hp t (ρ x)) (∃ v, sliceV P t (ρ x) (lo.map ρ) (hi.map ρ) (mx.map ρ) = some v ∧ Q v .nothing) False
  | .index t x ix => match ρ x, ρ ix with
    | .str s, .int _ i => (isStrT P t = true ∧ 0 ≤ i ∧ i < (s.size : Int)) ∧ Q (.int .u8 ((s.data.toList.getD i.toNat 0).toNat : Int)) .nothing
    | _, _ => opt (core P (fun _ _ => none) lim ρ hp idb ida o) fun p => Q p.1 p.2
  | _ => opt (core P (fun _ _ => none) lim ρ hp idb ida o) fun p => Q p.1 p.2
end

theorem core_call {P : Program} {call : Call} {lim : Option (Nat × Nat)} {ρ : Operand → V} {hp : Hp} {idb ida : Nat} {o : Oper} {p : V × New} (h : core P (fun _ _ => none) lim ρ hp idb ida o = some p) : core P call lim ρ hp idb ida o = some p := by
  obtain ⟨dst, op, ty, pos, after, guard⟩ := o
  cases op <;> try exact h
  case call c =>
    obtain ⟨callee, args, at_⟩ := c
    cases callee <;> try exact h
    · rename_i f
      exfalso
      simp only [core] at h
      split at h <;> try cases h
      split at h <;> try cases h
      obtain ⟨_, _, h⟩ := Option.bind_eq_some_iff.1 h
      cases h
    · rename_i b; cases b <;> exact h
  case makeFunc fn a b => cases fn <;> exact h
theorem xCore_ok {P : Program} {lim : Option (Nat × Nat)} {ρ : Operand → V} {hp : Hp} {idb ida : Nat} {o : Oper} {Q : V → New → Prop} (h : xCore P lim ρ hp idb ida o Q) : ∃ v x, (∀ call, core P call lim ρ hp idb ida o = some (v, x)) ∧ Q v x := by
  have dflt : (opt (core P (fun _ _ => none) lim ρ hp idb ida o) fun p => Q p.1 p.2) → ∃ v x, (∀ call, core P call lim ρ hp idb ida o = some (v, x)) ∧ Q v x := by
    intro h
    obtain ⟨⟨v, x⟩, h1, h2⟩ := opt_ex h
    exact ⟨v, x, fun call => core_call h1, h2⟩
  obtain ⟨dst, op, ty, pos, after, guard⟩ := o
  cases op <;> try exact dflt h
  case move x => simp only [xCore, fv_eq] at h; exact ⟨_, _, fun _ => rfl, h⟩
  case assign x => simp only [xCore, fv_eq] at h; exact ⟨_, _, fun _ => rfl, h⟩
  case pick c a b =>
    simp only [xCore] at h
    split at h <;> try exact h.elim
    rename_i t ht
    have := sel_out h
    cases t with
    | true => exact ⟨_, _, fun _ => (by simp only [core, ht]), (fv_eq _ _).1 (this.1 rfl)⟩
    | false => exact ⟨_, _, fun _ => (by simp only [core, ht]), (fv_eq _ _).1 (this.2 rfl)⟩
  case binOp op t x y yt =>
    cases op <;> try exact dflt h
    case quo =>
      simp only [xCore] at h
      split at h <;> try exact h.elim
      rename_i hx hy
      obtain ⟨rfl, hb, h⟩ := h
      exact ⟨_, _, fun _ => (by simp [core, hx, hy, binOpN, binOp, hb]), h⟩
    case rem =>
      simp only [xCore] at h
      split at h <;> try exact h.elim
      rename_i hx hy
      obtain ⟨rfl, hb, h⟩ := h
      exact ⟨_, _, fun _ => (by simp [core, hx, hy, binOpN, binOp, hb]), h⟩
  case slice t x lo hi mx =>
    simp only [xCore] at h
    have hs := sel_out h
    cases ha : arrOk P lim hp t (ρ x) with
    | false => exact (hs.2 ha).elim
    | true =>
      obtain ⟨v, h1, h2⟩ := hs.1 ha
      exact ⟨v, _, fun _ => (by simp only [core, ha, Bool.true_eq_false, if_false, h1, Option.bind_some]), h2⟩
  case index t x ix =>
    simp only [xCore] at h
    split at h
    · rename_i hx hy
      exact ⟨_, _, fun _ => (by simp only [core, hx, hy]; rw [if_pos h.1]), h.2⟩
    · exact dflt h
  case indexAddr t x ix =>
    simp only [xCore] at h
    obtain ⟨e, he, h⟩ := opt_ex h
    split at h <;> try exact h.elim
    · rename_i hx hy
      exact ⟨_, _, fun _ => (by simp only [core, he, hx, hy, Option.bind_some]; rw [if_pos h.1]), h.2⟩
    · rename_i hx hy
      exact ⟨_, _, fun _ => (by simp only [core, he, hx, hy, Option.bind_some]; rw [if_pos h.1]), h.2⟩
  case load t a =>
    simp only [xCore] at h
    split at h
    · rename_i cs o ha
      obtain ⟨hle, h⟩ := h
      obtain ⟨v, h1, h2⟩ := opt_ex h
      exact ⟨v, _, fun _ => (by simp only [core, ha, look]; rw [if_pos hle]; simp [h1]), (fv_eq _ _).1 h2⟩
    · obtain ⟨cs, h1, h⟩ := opt_ex h
      obtain ⟨v, h2, h3⟩ := opt_ex h
      exact ⟨v, _, fun _ => (by simp only [core, h1, h2, Option.bind_some]), (fv_eq _ _).1 h3⟩

/-- one operation that is no call of a function -/
def xLoud (C : Cfg) (ρ : Operand → V) (hp : Hp) (ida : Nat) (o : Oper) (Q : V → Hp → Prop) : Prop :=
  match o.op with
  | .call ⟨.builtin .append, args, tys⟩ => match args.toList.map ρ, tys.toList with
    | [s, x], [t, u] => t = u ∧ opt (tslice C.P t) fun e => opt (tzero C.P e) fun z => (z.length = tsize C.P e ∧ tsize C.P e ≠ 0) ∧ opt (appendV (tsize C.P e) (tbytes C.P e) hp ida s x) fun p => Q p.1 p.2
    | _, _ => False
  | .call _ => opt (loud C.P (fun _ _ => none) (fun _ _ _ => none) (fun _ => true) ρ hp ida o) fun p => Q p.1 p.2
  | .next it true => match ρ it with
    | .ref b 0 => match hp.h b with
      | some (.iter s pos) => sel (decide (pos < s.size)) (Q (.tup [.bool true, .int .i64 pos, .int .i32 (Utf8.decode s pos).1]) { hp with h := upd hp.h b (some (.iter s (pos + (Utf8.decode s pos).2))) }) (Q (.tup [.bool false]) hp)
      | _ => False
    | _ => False
  | _ => opt (loud C.P (fun _ _ => none) (fun _ _ _ => none) (fun _ => true) ρ hp ida o) fun p => Q p.1 p.2
theorem loud_call {P : Program} {call : Call} {callR : CallR} {byref : Nat → Bool} {ρ : Operand → V} {hp : Hp} {ida : Nat} {o : Oper} {p : V × Hp} (h : loud P (fun _ _ => none) (fun _ _ _ => none) (fun _ => true) ρ hp ida o = some p) : loud P call callR byref ρ hp ida o = some p := by
  obtain ⟨dst, op, ty, pos, after, guard⟩ := o
  cases op <;> try exact h
  case call c =>
    obtain ⟨callee, args, at_⟩ := c
    cases callee <;> try exact h
    · exfalso
      simp only [loud, if_true] at h
      split at h <;> cases h
    · rename_i b; cases b <;> exact h
  case next it b => cases b <;> exact h
theorem xLoud_ok {C : Cfg} {ρ : Operand → V} {hp : Hp} {ida : Nat} {o : Oper} {Q : V → Hp → Prop} (h : xLoud C ρ hp ida o Q) : ∃ v hp', (∀ call callR byref, loud C.P call callR byref ρ hp ida o = some (v, hp')) ∧ Q v hp' := by
  have dflt : (opt (loud C.P (fun _ _ => none) (fun _ _ _ => none) (fun _ => true) ρ hp ida o) fun p => Q p.1 p.2) → ∃ v hp', (∀ call callR byref, loud C.P call callR byref ρ hp ida o = some (v, hp')) ∧ Q v hp' := by
    intro h
    obtain ⟨⟨v, x⟩, h1, h2⟩ := opt_ex h
    exact ⟨v, x, fun _ _ _ => loud_call h1, h2⟩
  obtain ⟨dst, op, ty, pos, after, guard⟩ := o
  cases op <;> try exact dflt h
  case next it b =>
    cases b <;> try exact dflt h
    simp only [xLoud] at h
    split at h <;> try exact h.elim
    rename_i b hb
    split at h <;> try exact h.elim
    rename_i s pos hx
    have hs := sel_out h
    by_cases hlt : pos < s.size
    · exact ⟨_, _, fun _ _ _ => (by simp only [loud, hb, hx]; rw [if_pos hlt]), hs.1 (decide_eq_true hlt)⟩
    · exact ⟨_, _, fun _ _ _ => (by simp only [loud, hb, hx]; rw [if_neg hlt]), hs.2 (decide_eq_false hlt)⟩
  case call c =>
    obtain ⟨callee, args, at_⟩ := c
    cases callee <;> try exact dflt h
    rename_i b
    cases b <;> try exact dflt h
    simp only [xLoud] at h
    split at h <;> try exact h.elim
    rename_i s x t u ha ht
    obtain ⟨rfl, h⟩ := h
    obtain ⟨e, h1, h⟩ := opt_ex h
    obtain ⟨z, h2, h⟩ := opt_ex h
    obtain ⟨h3, h⟩ := h
    obtain ⟨⟨v, hp'⟩, h4, h5⟩ := opt_ex h
    exact ⟨v, hp', fun _ _ _ => (by simp only [loud, ha, ht, if_true, h1, h2, Option.bind_some]; rw [if_pos h3]; exact h4), h5⟩

theorem keepH_self (r : V) (hp : Hp) : keepH r hp hp = hp := by unfold keepH; split <;> rfl
def asData (draw : Bool) (hp : Hp) (as : List V) : Option (List V × Hp) :=
  if draw then (match fzPL (fzP 6) as with | some as' => some (as', hp) | none => none) else fzL (fz 6) hp as
def xOp (C : Cfg) (ops : List Oper) (draw : Bool) (n0 m0 i : Nat) (o : Oper) (s : St) (Q : St → Prop) : Prop :=
  match o.op with
  | .call ⟨.value f, args, _⟩ => match val s.t f with
    | .fn k cap => match C.byref k && !(draw && !ordB ops i) with
      | true => ∃ r hp', C.EvR k (args.toList.map (val s.t) ++ cap) s.hp r hp' ∧ Q (({ s with hp := hp' } : St).put o.dst r)
      | false => match C.byref k && frB ops draw i o with
        | true => opt (asData true s.hp (args.toList.map (val s.t) ++ cap)) fun p => ∃ r hp', C.EvR k p.1 Hp.empty r hp' ∧ (match freshOf (m0 + i) (r, hp') with
          | some q => Q ((s.new (n0 + i) (m0 + i) q.2).put o.dst q.1)
          | none => ∃ r', C.Ev k p.1 r' ∧ Q (s.put o.dst r'))
        | false => opt (asData (draw && !ordB ops i) s.hp (args.toList.map (val s.t) ++ cap)) fun p => ∃ r, C.Ev k p.1 r ∧ Q (({ s with hp := keepH r s.hp p.2 } : St).put o.dst r)
    | _ => False
  | op => match isLoud draw op with
    | true => xLoud C (val s.t) s.hp (m0 + i) o fun v hp => Q (({ s with hp } : St).put o.dst v)
    | false => xCore C.P (match draw with | true => some (n0, m0) | false => none) (val s.t) s.hp (n0 + i) (m0 + i) o fun v x => Q ((s.new (n0 + i) (m0 + i) x).put o.dst v)
def xOps (C : Cfg) (ops : List Oper) (draw : Bool) (n0 m0 : Nat) : Nat → List Oper → St → (St → Prop) → Prop
  | _, [], s, Q => Q s
  | i, o :: os, s, Q => match o.guard with
    | none => xOp C ops draw n0 m0 i o s fun s' => xOps C ops draw n0 m0 (i + 1) os s' Q
    | some _ => match wantedV ops s.t o with
      | some b => sel b (xOp C ops draw n0 m0 i o s fun s' => xOps C ops draw n0 m0 (i + 1) os s' Q) (xOps C ops draw n0 m0 (i + 1) os (s.put o.dst (.tup [])) Q)
      | none => False

theorem xOp_ok {C : Cfg} {ops : List Oper} {draw : Bool} {n0 m0 i : Nat} {o : Oper} {s : St} {Q : St → Prop} (hw : wantedV ops s.t o = some true) (h : xOp C ops draw n0 m0 i o s Q) : ∃ K s', (∀ k, K ≤ k → stepOp C.P (C.env k) ops draw n0 m0 i o s = some s') ∧ Q s' := by
  unfold xOp at h
  split at h
  · rename_i f args tys hop
    split at h <;> try exact h.elim
    rename_i kf cap hf
    split at h
    · rename_i hbr
      obtain ⟨r, hp', ⟨K, hK⟩, hQ⟩ := h
      simp only [Bool.and_eq_true] at hbr
      obtain ⟨hb, hq⟩ := hbr
      have hl : loudF ops draw i o = true := by
        unfold loudF
        rw [hop]
        cases draw
        · simp [isLoud]
        · simpa [isLoud, isCallV] using hq
      refine ⟨K, _, fun k hk => ?_, hQ⟩
      unfold stepOp
      rw [hw]
      simp only [hl, if_true]
      simp only [hop, loud, hf, Cfg.env, hb, if_true]
      rw [hK k hk]
    · rename_i hbr
      split at h
      · rename_i hfb
        simp only [Bool.and_eq_true] at hfb
        obtain ⟨hb, hfr⟩ := hfb
        obtain ⟨⟨as', hpx⟩, h1, r, hp', ⟨K, hK⟩, hQ⟩ := opt_ex h
        have hq : (draw && !ordB ops i) = true := by rw [hb] at hbr; simpa using hbr
        have hl : loudF ops draw i o = false := by
          unfold loudF
          rw [hop]
          cases draw
          · simp at hq
          · simpa [isLoud, isCallV] using hq
        have hdr : draw = true := by cases draw <;> simp at hq ⊢
        subst hdr
        simp only [asData, if_true] at h1
        cases hz : fzPL (fzP 6) (args.toList.map (val s.t) ++ cap) with
        | none => rw [hz] at h1; cases h1
        | some as =>
        rw [hz] at h1
        cases h1
        have hk : ∀ k, freshK (C.env k) (val s.t) o = some (kf, as') := fun k => by
          simp only [freshK, hop, hf, Cfg.env, hb, hz]
        simp only at hQ
        cases hfo : freshOf (m0 + i) (r, hp') with
        | some q =>
          rw [hfo] at hQ
          refine ⟨K, _, fun k hk' => ?_, hQ⟩
          unfold stepOp
          rw [hw]
          simp only [hl, Bool.false_eq_true, if_false, if_true, coreF, hfr, hk]
          rw [show (C.env k).callR kf as' Hp.empty = some (r, hp') from hK k hk']
          simp only [hfo]
        | none =>
          rw [hfo] at hQ
          obtain ⟨r', ⟨K', hK'⟩, hQ⟩ := hQ
          refine ⟨max K K', _, fun k hk' => ?_, hQ⟩
          unfold stepOp
          rw [hw]
          simp only [hl, Bool.false_eq_true, if_false, if_true, coreF, hfr, hk]
          rw [show (C.env k).callR kf as' Hp.empty = some (r, hp') from hK k (by omega)]
          simp only [hfo, hop, core, hf, hz, Option.bind_some, Cfg.env]
          rw [hK' k (by omega)]
          rfl
      rename_i hfb
      obtain ⟨⟨as', hp'⟩, h1, r, ⟨K, hK⟩, hQ⟩ := opt_ex h
      refine ⟨K, _, fun k hk => ?_, hQ⟩
      unfold stepOp
      rw [hw]
      cases hq : (draw && !ordB ops i) with
      | true =>
        rw [hq] at h1
        have hl : loudF ops draw i o = false := by
          unfold loudF
          rw [hop]
          cases draw
          · simp at hq
          · simpa [isLoud, isCallV] using hq
        have hdr : draw = true := by cases draw <;> simp at hq ⊢
        simp only [asData, if_true] at h1
        cases hz : fzPL (fzP 6) (args.toList.map (val s.t) ++ cap) with
        | none => rw [hz] at h1; cases h1
        | some as =>
          rw [hz] at h1
          cases h1
          subst hdr
          simp only [hl, Bool.false_eq_true, if_false, if_true]
          have hcore : core C.P (C.env k).call (some (n0, m0)) (val s.t) s.hp (n0 + i) (m0 + i) o = some (r, .nothing) := by
            simp only [hop, core, hf, hz, Option.bind_some, Cfg.env]
            rw [hK k hk]; rfl
          have e : coreF C.P (C.env k) (frB ops true i o) (some (n0, m0)) (val s.t) s.hp (n0 + i) (m0 + i) o = some (r, .nothing) := by
            unfold coreF
            cases hfr : frB ops true i o with
            | false => exact hcore
            | true =>
              have hb : C.byref kf = false := by rw [hfr] at hfb; simpa using hfb
              have : freshK (C.env k) (val s.t) o = none := by simp only [freshK, hop, hf, Cfg.env, hb]
              simp only [this]; exact hcore
          rw [e]
          rw [keepH_self]; rfl
      | false =>
        have hb : C.byref kf = false := by rw [hq] at hbr; simpa using hbr
        rw [hq] at h1
        have hl : loudF ops draw i o = true := by
          unfold loudF
          rw [hop]
          cases draw
          · simp [isLoud]
          · simpa [isLoud, isCallV] using hq
        simp only [asData, Bool.false_eq_true, if_false] at h1
        simp only [hl, if_true]
        simp only [hop, loud, hf, Cfg.env, hb, Bool.false_eq_true, if_false, h1]
        rw [hK k hk]; rfl
  · rename_i hnc
    have hle : loudF ops draw i o = isLoud draw o.op := by
      unfold loudF
      have : isCallV o.op = false := by
        cases ho : o.op <;> try rfl
        rename_i c
        obtain ⟨callee, args, at_⟩ := c
        cases callee <;> first | rfl | exact absurd ho (hnc _ _ _)
      rw [this]; simp
    split at h
    · rename_i hl
      obtain ⟨v, hp', h1, hQ⟩ := xLoud_ok h
      refine ⟨0, _, fun k _ => ?_, hQ⟩
      unfold stepOp
      rw [hw]
      simp only [hle, hl, if_true, h1]
    · rename_i hl
      obtain ⟨v, x, h1, hQ⟩ := xCore_ok h
      refine ⟨0, _, fun k _ => ?_, hQ⟩
      unfold stepOp
      rw [hw]
      simp only [hle, hl, Bool.false_eq_true, if_false]
      have h2 := h1 (C.env k).call
      have hnf : frB ops draw i o = false := by
        have : isCallV o.op = false := by
          cases ho : o.op <;> try rfl
          rename_i c
          obtain ⟨callee, args, at_⟩ := c
          cases callee <;> first | rfl | exact absurd ho (hnc _ _ _)
        unfold frB
        rw [this]; simp
      simp only [coreF, hnf]
      cases draw with
      | true => simp only [if_true] at h2 ⊢; rw [h2]
      | false => simp only [Bool.false_eq_true, if_false] at h2 ⊢; rw [h2]
theorem xOps_ok {C : Cfg} {ops : List Oper} {draw : Bool} {n0 m0 : Nat} {Q : St → Prop} : ∀ (os : List Oper) (i : Nat) (s : St), xOps C ops draw n0 m0 i os s Q → ∃ K s', (∀ k, K ≤ k → stepOps C.P (C.env k) ops draw n0 m0 i os s = some s') ∧ Q s'
  | [], i, s, h => ⟨0, s, fun _ _ => rfl, h⟩
  | o :: os, i, s, h => by
    have yes : wantedV ops s.t o = some true → (xOp C ops draw n0 m0 i o s fun s' => xOps C ops draw n0 m0 (i + 1) os s' Q) → ∃ K s', (∀ k, K ≤ k → stepOps C.P (C.env k) ops draw n0 m0 i (o :: os) s = some s') ∧ Q s' := by
      intro hw h
      obtain ⟨K1, s1, h1, h2⟩ := xOp_ok hw h
      obtain ⟨K2, s2, h3, h4⟩ := xOps_ok os (i + 1) s1 h2
      exact ⟨max K1 K2, s2, fun k hk => by simp only [stepOps, h1 k (by omega)]; exact h3 k (by omega), h4⟩
    simp only [xOps] at h
    split at h
    · rename_i hg
      exact yes (by simp [wantedV, hg]) h
    · split at h <;> try exact h.elim
      rename_i b hw
      have hs := sel_out h
      cases b with
      | true => exact yes hw (hs.1 rfl)
      | false =>
        obtain ⟨K2, s2, h3, h4⟩ := xOps_ok os (i + 1) _ (hs.2 rfl)
        refine ⟨K2, s2, fun k hk => ?_, h4⟩
        simp only [stepOps, stepOp, hw]
        exact h3 k hk

/-- a loop: what one round and the rounds behind it come to -/
structure Loop (C : Cfg) (c : Code) (n : Nat) (s : St) (Q : Ex → St → Prop) : Prop where
  out : ∃ K J ex s', (∀ k j, K ≤ k → J ≤ j → loopN (evalCode C.P (C.env k) k c) n j s = some (ex, s')) ∧ Q ex s'
def xCode (C : Cfg) : Code → St → (Ex → St → Prop) → Prop
  | .skip, s, Q => Q .normal s
  | .label _, s, Q => Q .normal s
  | .region _ ops draw, s, Q => xOps C ops.toList draw s.hp.n s.hp.m 0 ops.toList (s.bump ops.toList.length) fun s' => match lateR ops.toList s'.t draw with | true => Q .normal s' | false => False
  | .seq a b, s, Q => xCode C a s fun ex s' => match ex with | .normal => xCode C b s' Q | .exit i => Q (.exit i) s' | .ret => Q .ret s'
  | .cond c a b, s, Q => match val s.t c with | .bool t => sel t (xCode C a s Q) (xCode C b s Q) | _ => False
  | .block id c, s, Q => xCode C c s fun ex s' => match ex with | .exit i => (match Nat.beq i id with | true => Q .normal s' | false => Q (.exit i) s') | .normal => Q .normal s' | .ret => Q .ret s'
  | .loop c, s, Q => Loop C c s.hp.n s Q
  | .exit id, s, Q => Q (.exit id) s
  | .scope c, s, Q => xCode C c s Q
  | .ret, s, Q => Q .ret s
  | _, _, _ => False
theorem xCode_ok {C : Cfg} : ∀ (c : Code) (s : St) (Q : Ex → St → Prop), xCode C c s Q → ∃ K ex s', (∀ k, K ≤ k → evalCode C.P (C.env k) k c s = some (ex, s')) ∧ Q ex s'
  | .skip, s, Q, h => ⟨0, _, _, fun _ _ => rfl, h⟩
  | .label _, s, Q, h => ⟨0, _, _, fun _ _ => rfl, h⟩
  | .exit _, s, Q, h => ⟨0, _, _, fun _ _ => rfl, h⟩
  | .ret, s, Q, h => ⟨0, _, _, fun _ _ => rfl, h⟩
  | .scope c, s, Q, h => xCode_ok c s Q h
  | .region _ ops draw, s, Q, h => by
    obtain ⟨K, s', h1, h2⟩ := xOps_ok _ _ _ h
    split at h2
    · rename_i hl
      exact ⟨K, _, s', fun k hk => by simp only [evalCode, stepRegion, h1 k hk, hl], h2⟩
    · exact h2.elim
  | .seq a b, s, Q, h => by
    obtain ⟨K1, ex, s1, h1, h2⟩ := xCode_ok a s _ h
    cases ex with
    | normal =>
      obtain ⟨K2, ex2, s2, h3, h4⟩ := xCode_ok b s1 Q h2
      exact ⟨max K1 K2, ex2, s2, fun k hk => by simp only [evalCode, h1 k (by omega)]; exact h3 k (by omega), h4⟩
    | exit i => exact ⟨K1, _, s1, fun k hk => by simp only [evalCode, h1 k hk], h2⟩
    | ret => exact ⟨K1, _, s1, fun k hk => by simp only [evalCode, h1 k hk], h2⟩
  | .cond c a b, s, Q, h => by
    simp only [xCode] at h
    split at h <;> try exact h.elim
    rename_i t ht
    have hs := sel_out h
    cases t with
    | true =>
      obtain ⟨K, ex, s', h1, h2⟩ := xCode_ok a s Q (hs.1 rfl)
      exact ⟨K, ex, s', fun k hk => by simp only [evalCode, ht]; exact h1 k hk, h2⟩
    | false =>
      obtain ⟨K, ex, s', h1, h2⟩ := xCode_ok b s Q (hs.2 rfl)
      exact ⟨K, ex, s', fun k hk => by simp only [evalCode, ht]; exact h1 k hk, h2⟩
  | .block id c, s, Q, h => by
    obtain ⟨K, ex, s1, h1, h2⟩ := xCode_ok c s _ h
    cases ex with
    | normal => exact ⟨K, _, s1, fun k hk => by simp only [evalCode, h1 k hk], h2⟩
    | ret => exact ⟨K, _, s1, fun k hk => by simp only [evalCode, h1 k hk], h2⟩
    | exit i =>
      simp only at h2
      cases hi : Nat.beq i id with
      | true =>
        rw [hi] at h2
        have : i = id := Nat.eq_of_beq_eq_true hi
        exact ⟨K, _, s1, fun k hk => by simp only [evalCode, h1 k hk, if_pos this], h2⟩
      | false =>
        rw [hi] at h2
        have : i ≠ id := Nat.ne_of_beq_eq_false hi
        exact ⟨K, _, s1, fun k hk => by simp only [evalCode, h1 k hk, if_neg this], h2⟩
  | .loop c, s, Q, h => by
    obtain ⟨K, J, ex, s', h1, h2⟩ := h.out
    exact ⟨max K J, ex, s', fun k hk => by simp only [evalCode]; exact h1 k k (by omega) (by omega), h2⟩

/-- one round, and what is to be shown behind it -/
theorem Loop.round {C : Cfg} {c : Code} {n : Nat} {s : St} {Q : Ex → St → Prop} (h : xCode C c s fun ex s' => match ex with | .normal => Loop C c n (s'.trunc n) Q | .exit i => Q (.exit i) s' | .ret => Q .ret s') : Loop C c n s Q := by
  obtain ⟨K, ex, s1, h1, h2⟩ := xCode_ok c s _ h
  cases ex with
  | normal =>
    obtain ⟨K2, J2, ex2, s2, h3, h4⟩ := h2.out
    refine ⟨max K K2, J2 + 1, ex2, s2, fun k j hk hj => ?_, h4⟩
    obtain ⟨j, rfl⟩ : ∃ m, j = m + 1 := ⟨j - 1, by omega⟩
    simp only [loopN, h1 k (by omega)]
    exact h3 k j (by omega) (by omega)
  | exit i =>
    refine ⟨K, 1, _, s1, fun k j hk hj => ?_, h2⟩
    obtain ⟨j, rfl⟩ : ∃ m, j = m + 1 := ⟨j - 1, by omega⟩
    simp only [loopN, h1 k hk]
  | ret =>
    refine ⟨K, 1, _, s1, fun k j hk hj => ?_, h2⟩
    obtain ⟨j, rfl⟩ : ∃ m, j = m + 1 := ⟨j - 1, by omega⟩
    simp only [loopN, h1 k hk]
theorem Loop.mono {C : Cfg} {c : Code} {n : Nat} {s : St} {Q Q' : Ex → St → Prop} (h : Loop C c n s Q) (hq : ∀ ex s', Q ex s' → Q' ex s') : Loop C c n s Q' := by
  obtain ⟨K, J, ex, s', h1, h2⟩ := h.out
  exact ⟨K, J, ex, s', h1, hq _ _ h2⟩

/-- what a function's body leaves as its result -/
def xRes (C : Cfg) (fn : Func) (s : St) (Q : V → Prop) : Prop := opt (resOf C.P fn s) Q
theorem EvR.of {C : Cfg} {f : Nat} {fn : Func} {body : Code} {as : List V} {hp : Hp} {r : V} {hp' : Hp} (h1 : C.P.funcs[f]? = some fn) (h2 : fn.body = some body) (h3 : C.okF f = true)
    (h : xCode C body ⟨init as, hp⟩ fun ex s' => match ex with | .exit _ => False | _ => opt (resOf C.P fn s') fun r' => r' = r ∧ s'.hp = hp') : C.EvR f as hp r hp' := by
  obtain ⟨K, ex, s', h4, h5⟩ := xCode_ok _ _ _ h
  refine ⟨K + 1, fun k hk => ?_⟩
  obtain ⟨k, rfl⟩ : ∃ m, k = m + 1 := ⟨k - 1, by omega⟩
  have := h4 k (by omega)
  simp only [Cfg.R, evalR, h1, h2, h3, Bool.true_eq_false, if_false]
  have e : evalCode C.P ⟨dataCall C.ext (evalR C.P C.okF C.ext C.extR C.byref k), evalR C.P C.okF C.ext C.extR C.byref k, C.byref⟩ k body ⟨init as, hp⟩ = some (ex, s') := this
  rw [e]
  cases ex with
  | exit i => exact h5.elim
  | normal => obtain ⟨r', h6, rfl, rfl⟩ := opt_ex h5; simp only [h6]
  | ret => obtain ⟨r', h6, rfl, rfl⟩ := opt_ex h5; simp only [h6]
theorem Ev.of {C : Cfg} {f : Nat} {fn : Func} {body : Code} {as : List V} {r : V} (h0 : C.ext f = none) (h1 : C.P.funcs[f]? = some fn) (h2 : fn.body = some body) (h3 : C.okF f = true)
    (h : xCode C body ⟨init as, Hp.empty⟩ fun ex s' => match ex with | .exit _ => False | _ => opt (resOf C.P fn s') fun r' => opt (fz 6 s'.hp r') fun p => p.1 = r) : C.Ev f as r := by
  obtain ⟨K, ex, s', h4, h5⟩ := xCode_ok _ _ _ h
  refine ⟨K + 1, fun k hk => ?_⟩
  obtain ⟨k, rfl⟩ : ∃ m, k = m + 1 := ⟨k - 1, by omega⟩
  have := h4 k (by omega)
  have e : evalCode C.P ⟨dataCall C.ext (evalR C.P C.okF C.ext C.extR C.byref k), evalR C.P C.okF C.ext C.extR C.byref k, C.byref⟩ k body ⟨init as, Hp.empty⟩ = some (ex, s') := this
  simp only [Cfg.call, dataCall, h0, Cfg.R, evalR, h1, h2, h3, Bool.true_eq_false, if_false, e]
  cases ex with
  | exit i => exact h5.elim
  | normal => obtain ⟨r', h6, h7⟩ := opt_ex h5; obtain ⟨⟨v, hp1⟩, h8, rfl⟩ := opt_ex h7; simp only [h6, h8]
  | ret => obtain ⟨r', h6, h7⟩ := opt_ex h5; obtain ⟨⟨v, hp1⟩, h8, rfl⟩ := opt_ex h7; simp only [h6, h8]
theorem Ev.ofE {C : Cfg} {f : Nat} {fn : Func} {body : Code} {as : List V} {R : V → Prop} (h0 : C.ext f = none) (h1 : C.P.funcs[f]? = some fn) (h2 : fn.body = some body) (h3 : C.okF f = true)
    (h : xCode C body ⟨init as, Hp.empty⟩ fun ex s' => match ex with | .exit _ => False | _ => opt (resOf C.P fn s') fun r' => opt (fz 6 s'.hp r') fun p => R p.1) : ∃ r, C.Ev f as r ∧ R r := by
  obtain ⟨K, ex, s', h4, h5⟩ := xCode_ok _ _ _ h
  have key : ∀ r' v hp1, ex ≠ .exit 0 → (∀ i, ex ≠ .exit i) → resOf C.P fn s' = some r' → fz 6 s'.hp r' = some (v, hp1) → C.Ev f as v := by
    intro r' v hp1 _ hne h6 h8
    refine ⟨K + 1, fun k hk => ?_⟩
    obtain ⟨k, rfl⟩ : ∃ m, k = m + 1 := ⟨k - 1, by omega⟩
    have := h4 k (by omega)
    have e : evalCode C.P ⟨dataCall C.ext (evalR C.P C.okF C.ext C.extR C.byref k), evalR C.P C.okF C.ext C.extR C.byref k, C.byref⟩ k body ⟨init as, Hp.empty⟩ = some (ex, s') := this
    simp only [Cfg.call, dataCall, h0, Cfg.R, evalR, h1, h2, h3, Bool.true_eq_false, if_false, e]
    cases ex with
    | exit i => exact absurd rfl (hne i)
    | normal => simp only [h6, h8]
    | ret => simp only [h6, h8]
  cases ex with
  | exit i => exact h5.elim
  | normal => obtain ⟨r', h6, h7⟩ := opt_ex h5; obtain ⟨⟨v, hp1⟩, h8, h9⟩ := opt_ex h7; exact ⟨v, key r' v hp1 (by simp) (by simp) h6 h8, h9⟩
  | ret => obtain ⟨r', h6, h7⟩ := opt_ex h5; obtain ⟨⟨v, hp1⟩, h8, h9⟩ := opt_ex h7; exact ⟨v, key r' v hp1 (by simp) (by simp) h6 h8, h9⟩
theorem Ev.ext {C : Cfg} {f : Nat} {g : List V → Option V} {as : List V} {r : V} (h0 : C.ext f = some g) (h : g as = some r) : C.Ev f as r := ⟨0, fun k _ => by simp only [Cfg.call, dataCall, h0, h]⟩
end Go.Ab
end

section
set_option linter.unusedVariables false
set_option linter.unusedSimpArgs false
set_option linter.unusedSimpArgs false
set_option linter.unusedVariables false
namespace Go.Ab
/-- more fuel says no less -/
def CallLe (c c' : Call) : Prop := ∀ f as r, c f as = some r → c' f as = some r
def CallRLe (c c' : CallR) : Prop := ∀ f as hp r, c f as hp = some r → c' f as hp = some r
structure EnvLe (E E' : Env) : Prop where
  call : CallLe E.call E'.call
  callR : CallRLe E.callR E'.callR
  byref : E.byref = E'.byref
variable {P : Program}
theorem core_le {c c' : Call} (h : CallLe c c') {lim : Option (Nat × Nat)} {ρ : Operand → V} {hp : Hp} {idb ida : Nat} {o : Oper} {p : V × New} (hc : core P c lim ρ hp idb ida o = some p) : core P c' lim ρ hp idb ida o = some p := by
  obtain ⟨dst, op, ty, pos, after, guard⟩ := o
  cases op <;> try exact hc
  case call cl =>
    obtain ⟨callee, args, at_⟩ := cl
    cases callee <;> try exact hc
    · rename_i f
      simp only [core] at hc ⊢
      split at hc <;> try cases hc
      rename_i hf
      split at hc <;> try cases hc
      obtain ⟨as, h1, hc⟩ := Option.bind_eq_some_iff.1 hc
      obtain ⟨r, h2, hc⟩ := Option.bind_eq_some_iff.1 hc
      simp only [h1, Option.bind_some, h _ _ _ h2]
      exact hc
    · rename_i b; cases b <;> exact hc
  case makeFunc fn a b => cases fn <;> exact hc
theorem coreF_le {E E' : Env} (h : EnvLe E E') {fr : Bool} {lim : Option (Nat × Nat)} {ρ : Operand → V} {hp : Hp} {idb ida : Nat} {o : Oper} {p : V × New} (hc : coreF P E fr lim ρ hp idb ida o = some p) : coreF P E' fr lim ρ hp idb ida o = some p := by
  have hk : freshK E ρ o = freshK E' ρ o := by unfold freshK; rw [h.byref]
  unfold coreF at hc ⊢
  rw [← hk]
  split at hc
  · split at hc
    · split at hc <;> try cases hc
      rename_i hr
      rw [h.callR _ _ _ _ hr]
      simp only
      split at hc
      · exact hc
      · exact core_le h.call hc
    · exact core_le h.call hc
  · exact core_le h.call hc
theorem loud_le {E E' : Env} (h : EnvLe E E') {ρ : Operand → V} {hp : Hp} {ida : Nat} {o : Oper} {p : V × Hp} (hc : loud P E.call E.callR E.byref ρ hp ida o = some p) : loud P E'.call E'.callR E'.byref ρ hp ida o = some p := by
  obtain ⟨dst, op, ty, pos, after, guard⟩ := o
  cases op <;> try exact hc
  case call cl =>
    obtain ⟨callee, args, at_⟩ := cl
    cases callee <;> try exact hc
    · rename_i f
      simp only [loud] at hc ⊢
      split at hc <;> try cases hc
      rename_i k cap hf
      rw [← h.byref]
      by_cases hb : E.byref k = true
      · rw [if_pos hb] at hc ⊢
        exact h.callR _ _ _ _ hc
      · rw [if_neg hb] at hc ⊢
        split at hc <;> try cases hc
        rename_i as hp' hz
        obtain ⟨r, h2, hc⟩ := Option.bind_eq_some_iff.1 hc
        rw [h.call _ _ _ h2]
        exact hc
    · rename_i b; cases b <;> exact hc
  case next it b => cases b <;> exact hc
theorem stepOp_le {E E' : Env} (h : EnvLe E E') {ops : List Oper} {draw : Bool} {n0 m0 i : Nat} {o : Oper} {s s' : St} (hs : stepOp P E ops draw n0 m0 i o s = some s') : stepOp P E' ops draw n0 m0 i o s = some s' := by
  unfold stepOp at hs ⊢
  split at hs
  · split at hs
    · rename_i hl
      rw [if_pos hl]
      split at hs <;> try cases hs
      rename_i v hp hq
      rw [loud_le h hq]
    · rename_i hl
      rw [if_neg hl]
      split at hs <;> try cases hs
      rename_i v x hq
      rw [coreF_le h hq]
  · exact hs
  · cases hs
theorem stepOps_le {E E' : Env} (h : EnvLe E E') {ops : List Oper} {draw : Bool} {n0 m0 : Nat} : ∀ (os : List Oper) (i : Nat) (s s' : St), stepOps P E ops draw n0 m0 i os s = some s' → stepOps P E' ops draw n0 m0 i os s = some s'
  | [], i, s, s', hs => hs
  | o :: os, i, s, s', hs => by
    simp only [stepOps] at hs ⊢
    split at hs <;> try cases hs
    rename_i s1 h1
    rw [stepOp_le h h1]
    exact stepOps_le h os (i + 1) s1 s' hs
theorem loopN_le {b b' : St → Option (Ex × St)} (h : ∀ s r, b s = some r → b' s = some r) (n : Nat) : ∀ (j j' : Nat), j ≤ j' → ∀ (s : St) (r : Ex × St), loopN b n j s = some r → loopN b' n j' s = some r
  | 0, _, _, _, _, hr => by cases hr
  | j + 1, 0, hj, _, _, _ => by omega
  | j + 1, j' + 1, hj, s, r, hr => by
    simp only [loopN] at hr ⊢
    cases hb : b s with
    | none => rw [hb] at hr; cases hr
    | some p =>
      obtain ⟨ex, s1⟩ := p
      rw [h s _ hb]
      rw [hb] at hr
      cases ex with
      | normal => exact loopN_le h n j j' (by omega) _ r hr
      | exit i => exact hr
      | ret => exact hr
theorem evalCode_le {E E' : Env} (h : EnvLe E E') {lf lf' : Nat} (hl : lf ≤ lf') : ∀ (c : Code) (s : St) (r : Ex × St), evalCode P E lf c s = some r → evalCode P E' lf' c s = some r
  | .skip, s, r, hr => hr
  | .label _, s, r, hr => hr
  | .exit _, s, r, hr => hr
  | .ret, s, r, hr => hr
  | .scope c, s, r, hr => by simp only [evalCode] at hr ⊢; exact evalCode_le h hl c s r hr
  | .region _ ops draw, s, r, hr => by
    simp only [evalCode, stepRegion] at hr ⊢
    cases hs : stepOps P E ops.toList draw s.hp.n s.hp.m 0 ops.toList (s.bump ops.toList.length) with
    | none => rw [hs] at hr; cases hr
    | some s' =>
      rw [hs] at hr
      rw [stepOps_le h _ _ _ _ hs]
      exact hr
  | .seq a b, s, r, hr => by
    simp only [evalCode] at hr ⊢
    cases ha : evalCode P E lf a s with
    | none => rw [ha] at hr; cases hr
    | some p =>
      obtain ⟨ex, s1⟩ := p
      rw [evalCode_le h hl a s _ ha]
      rw [ha] at hr
      cases ex with
      | normal => exact evalCode_le h hl b s1 r hr
      | exit i => exact hr
      | ret => exact hr
  | .cond c a b, s, r, hr => by
    simp only [evalCode] at hr ⊢
    split at hr
    · exact evalCode_le h hl a s r hr
    · exact evalCode_le h hl b s r hr
    · cases hr
  | .block id c, s, r, hr => by
    simp only [evalCode] at hr ⊢
    cases ha : evalCode P E lf c s with
    | none => rw [ha] at hr; cases hr
    | some p =>
      obtain ⟨ex, s1⟩ := p
      rw [evalCode_le h hl c s _ ha]
      rw [ha] at hr
      cases ex with
      | exit i => exact hr
      | normal => exact hr
      | ret => exact hr
  | .loop c, s, r, hr => by
    simp only [evalCode] at hr ⊢
    exact loopN_le (fun s r => evalCode_le h hl c s r) _ _ _ hl s r hr
  | .rangeFunc .., _, _, hr => by simp [evalCode] at hr
  | .goto _, _, _, hr => by simp [evalCode] at hr
  | .refuse _, _, _, hr => by simp [evalCode] at hr
theorem evalR_le {okF : Nat → Bool} {ext : Exts} {extR : ExtsR} {byref : Nat → Bool} : ∀ (k k' : Nat), k ≤ k' → CallRLe (evalR P okF ext extR byref k) (evalR P okF ext extR byref k')
  | 0, _, _ => fun f as hp r h => by cases h
  | k + 1, 0, h => by omega
  | k + 1, k' + 1, h => fun f as hp r hr => by
    have ih := evalR_le (okF := okF) (ext := ext) (extR := extR) (byref := byref) k k' (by omega)
    have hE : EnvLe ⟨dataCall ext (evalR P okF ext extR byref k), evalR P okF ext extR byref k, byref⟩ ⟨dataCall ext (evalR P okF ext extR byref k'), evalR P okF ext extR byref k', byref⟩ := by
      refine ⟨fun f as r hr => ?_, ih, rfl⟩
      simp only [dataCall] at hr ⊢
      split at hr
      · exact hr
      · split at hr <;> try cases hr
        rename_i r0 hp' hq
        rw [ih _ _ _ _ hq]
        exact hr
    simp only [evalR] at hr ⊢
    split at hr
    · rename_i hok
      rw [if_pos hok]; exact hr
    rename_i hok
    rw [if_neg hok]
    cases hf : P.funcs[f]? with
    | none => rw [hf] at hr; cases hr
    | some fn =>
      rw [hf] at hr
      simp only at hr ⊢
      cases hb : fn.body with
      | none => rw [hb] at hr; cases hr
      | some body =>
        rw [hb] at hr
        simp only at hr ⊢
        cases hc : evalCode P ⟨dataCall ext (evalR P okF ext extR byref k), evalR P okF ext extR byref k, byref⟩ k body ⟨init as, hp⟩ with
        | none => rw [hc] at hr; cases hr
        | some p =>
          rw [evalCode_le hE (show k ≤ k' by omega) body _ _ hc]
          rw [hc] at hr
          exact hr
theorem Ev.closed {C : Cfg} {f : Nat} {as : List V} {r : V} (k : Nat) (h : C.call k f as = some r) : C.Ev f as r := by
  refine ⟨k, fun k' hk => ?_⟩
  simp only [Cfg.call, Cfg.R, dataCall] at h ⊢
  split at h
  · exact h
  · split at h <;> try cases h
    rename_i r0 hp' hq
    rw [evalR_le k k' hk _ _ _ _ hq]
    exact h
end Go.Ab
end

section
set_option linter.unusedVariables false
set_option linter.unusedSimpArgs false
set_option linter.unusedSimpArgs false
set_option linter.unusedVariables false
namespace Go.Ab
open Go.RowKit
variable {P : Program}

theorem FInv.upTo {base : Nat} {G0 : Gh} {w0 : World} {hp0 : Hp} {G : Gh} {hp : Hp} {w : World} {n m : Nat} (h : FInv base G0 w0 hp0 G hp w) (hn : hp.n ≤ n) (hm : hp.m ≤ m) : FInv base G0 w0 hp0 G ⟨hp.h, n, hp.a, m⟩ w := by
  obtain ⟨ow, hs⟩ := h.sim
  exact ⟨⟨ow, hs.S, hs.box, hs.arr⟩, h.grow, h.below, h.lb, fun b hb => h.fb b (by simp only at hb; omega), fun i hi => h.fa i (by simp only at hi; omega), by have := h.n; simp only; omega, by have := h.m; simp only; omega, h.eb, h.ea, h.f0, h.s0⟩

/-- a region whose one question is whether an empty slice is nil: it has some answer -/
theorem region_fork {base : Nat} {G0 : Gh} {w0 : World} {hp0 : Hp} {N : Nat} {L : World → Prop} {E : Env} (hE : EnvOK P L E) (hL : ∀ w', Below base w0 w' → L w')
    {id : Nat} {ops : Array Oper} {o1 o2 : Oper} (ho : ops = #[o1, o2]) {x : Operand} {d1 d2 ty : Nat} {c : Bool} {cs : List V} {yt : TypeId}
    (h1 : o1.op = .move x ∧ o1.dst = some d1 ∧ o1.guard = none) (h2 : o2.op = .binOp .eql ty (.tmp d1) (.const (.slice none 0 0)) yt ∧ o2.dst = some d2 ∧ o2.guard = none)
    (hd : d1 < N ∧ d2 < N) (hty : isSlT P ty = true)
    {s : St} {a : Act} {w : World} {G : Gh} (h : CInv [] base G0 w0 hp0 N s a w G) (hx : val s.t x = .sl c cs 0) :
    (Code.region id ops false).wp P (fun e a' w' => e = .normal ∧ ∃ b G', CInv [] base G0 w0 hp0 N (((s.bump 2).put (some d1) (.sl c cs 0)).put (some d2) (.bool b)) a' w' G') a w := by
  subst ho
  refine wp_region ?_
  have hbump := h.inv.bump 2
  have R : RInv [] (fun j => 0 ≤ j ∧ j < 0 + 2) s.hp.n s.hp.m base G0 w0 hp0 N (s.bump 2) a w G :=
    ⟨hbump, h.t, h.d, h.N, h.inv.n, h.inv.m, fun j hj => ⟨by simp only [St.bump]; omega, h.inv.fb _ (by omega)⟩, fun j hj => ⟨by simp only [St.bump]; omega, h.inv.fa _ (by omega)⟩⟩
  have hs1 : stepOp P E [o1, o2] false s.hp.n s.hp.m 0 o1 (s.bump 2) = some ((s.bump 2).put (some d1) (.sl c cs 0)) := by
    simp only [stepOp, wantedV, h1.2.2, loudF, isLoud, coreF, frB, h1.1, Bool.false_and, Bool.or_false, Bool.false_eq_true, if_false, core, h1.2.1]
    rw [show val (s.bump 2).t x = .sl c cs 0 from hx]
    rfl
  rw [show List.range (#[o1, o2] : Array Oper).size = [0, 1] from rfl, wpOps_cons]
  refine stepOp_ok (P := P) hE hL R (i := 0) ⟨Nat.le_refl _, by omega⟩ rfl (by rw [h1.2.1]; rintro d hd'; cases hd'; exact hd.1) hs1 fun a' w' G' R' => ?_
  rw [wpOps_cons]
  have hw : Region.wanted o2 (yielded (#[o1, o2] : Array Oper) a'.tmps) = true := by unfold Region.wanted; rw [h2.2.2]
  refine wpOp_at (o := o2) rfl hw ?_
  have hv : VR G' w' (.sl c cs 0) (a'.eval (.tmp d1)) := by
    have := eval_ok R'.t (.tmp d1)
    have e : val ((s.bump 2).put (some d1) (.sl c cs 0)).t (.tmp d1) = .sl c cs 0 := by simp [val, St.put, upd]
    rw [e] at this; exact this
  obtain ⟨ad, cap, e, _⟩ := hv
  obtain ⟨g1, z, g2, g3⟩ := nilTest_run (P := P) (op := .eql) (t := ty) (ad := ad) (n := 0) (c := cap) (v := .bool ad.isNone) (G := G') (w := w') (by unfold eqv; rw [if_pos hty])
  obtain ⟨dst, op, ty', pos, after, guard⟩ := o2
  obtain ⟨e1, e2, e3⟩ := h2
  simp only at e1 e2 e3
  subst e1 e2 e3
  have hrun : (execOp a'.eval { dst := some d2, op := .binOp .eql ty (.tmp d1) (.const (.slice none 0 0)) yt, type := ty', pos := pos, after := after, guard := none }).run P w' = .ok (.value z) w' := by
    simp only [execOp, e]
    rw [show a'.eval (.const (.slice none 0 0)) = .slice none 0 0 from rfl]
    simp [g1, g2]
  unfold Oper.wp
  rw [hrun, Oper.upon_value]
  have R2 := R'.step (i := 1) ⟨⟨by omega, by omega⟩, by omega⟩ (dst := some d2) (by rintro d hd'; cases hd'; exact hd.2) (hp' := ((s.bump 2).put (some d1) (.sl c cs 0)).hp) R'.inv.sim (Grow.refl _ _) (Below.refl _ _) rfl rfl (fun _ _ => rfl) (fun _ _ h => h) (fun _ _ h _ => h) g3
  rw [wpOps]
  exact ⟨rfl, ad.isNone, G', R2.inv, R2.t, R2.d, R2.N⟩
end Go.Ab
end

section
set_option linter.unusedVariables false
set_option linter.unusedSimpArgs false
set_option linter.unusedSimpArgs false
set_option linter.unusedVariables false
namespace Go.Ab
open Go.RowKit
variable {P : Program}

/-- slices.Clone's code -/
def cloneBody (t b : Nat) (p0 p1 p2 p3 : String) : Code :=
  .seq (.region 0 #[{ dst := some 2, op := .assign (.const (.slice none 0 0)), type := t, pos := p0, after := #[], guard := none }] false)
    (.seq
      (.seq
        (.region 1 #[{ dst := some 3, op := .move (.tmp 0), type := t, pos := p1, after := #[], guard := none },
          { dst := some 4, op := .binOp .eql t (.tmp 3) (.const (.slice none 0 0)) t, type := b, pos := p1, after := #[⟨0, .data⟩], guard := none }] false)
        (.cond (.tmp 4)
          (.seq (.region 2 #[{ dst := some 2, op := .assign (.const (.slice none 0 0)), type := t, pos := p2, after := #[], guard := none }] false) .ret)
          .skip))
      (.seq
        (.region 3 #[{ dst := some 5, op := .buildSlice t 0 #[], type := t, pos := p3, after := #[], guard := none },
          { dst := some 6, op := .move (.tmp 0), type := t, pos := p3, after := #[], guard := none },
          { dst := some 7, op := .call ⟨.builtin .append, #[.tmp 5, .tmp 6], #[t, t]⟩, type := t, pos := p3, after := #[⟨0, .data⟩, ⟨1, .data⟩], guard := none },
          { dst := some 2, op := .assign (.tmp 7), type := t, pos := p3, after := #[⟨2, .data⟩, ⟨2, .chain⟩, ⟨0, .phase⟩, ⟨1, .phase⟩, ⟨2, .phase⟩], guard := none }] false)
        .ret))
/-- what it comes to -/
def cloneR (size bytes : Nat) (as : List V) (hp : Hp) : Option (V × Hp) :=
  match as with
  | [s] => match content none hp size s with
    | some (_, 0) => some (.sl true [] 0, ⟨hp.h, hp.n + 7, hp.a, hp.m + 7⟩)
    | some (cs, n + 1) => if (n + 1) * bytes ≤ maxRoom ∧ n + 1 ≤ maxRoom then some (.rsl false (hp.m + 5) 0 0 (n + 1), ⟨hp.h, hp.n + 7, upd hp.a (hp.m + 5) (some ⟨0, size, cs, none, 0⟩), hp.m + 7⟩) else none
    | none => none
  | _ => none

def noEnv : Env := ⟨fun _ _ => none, fun _ _ _ => none, fun _ => false⟩
theorem noEnv_ok (L : World → Prop) : EnvOK P L noEnv := ⟨fun _ _ _ h => (by cases h), fun _ _ _ _ _ h => (by cases h)⟩

theorem FInv.drop {base : Nat} {G0 : Gh} {w0 : World} {hp0 : Hp} {G : Gh} {hp : Hp} {w : World} {a : Nat → Option Arr} (h : FInv base G0 w0 hp0 G hp w) (ha : ∀ i A, a i = some A → hp.a i = some A) : FInv base G0 w0 hp0 G ⟨hp.h, hp.n, a, hp.m⟩ w := by
  obtain ⟨ow, hs⟩ := h.sim
  exact ⟨⟨ow, hs.S, hs.box, fun i A hA => hs.arr i A (ha i A hA)⟩, h.grow, h.below, h.lb, h.fb, h.fa, h.n, h.m, h.eb, h.ea, h.f0, h.s0⟩

def cloneEnd (t : Nat) (p3 : String) : Code := .seq (.region 3 #[{ dst := some 5, op := .buildSlice t 0 #[], type := t, pos := p3, after := #[], guard := none },
          { dst := some 6, op := .move (.tmp 0), type := t, pos := p3, after := #[], guard := none },
          { dst := some 7, op := .call ⟨.builtin .append, #[.tmp 5, .tmp 6], #[t, t]⟩, type := t, pos := p3, after := #[⟨0, .data⟩, ⟨1, .data⟩], guard := none },
          { dst := some 2, op := .assign (.tmp 7), type := t, pos := p3, after := #[⟨2, .data⟩, ⟨2, .chain⟩, ⟨0, .phase⟩, ⟨1, .phase⟩, ⟨2, .phase⟩], guard := none }] false) .ret
theorem content_new {hp : Hp} {size i n' m' : Nat} {s : V} {A : Arr} {r : List V × Nat} (hi : hp.a i = none) (h : content none hp size s = some r) : content none ⟨hp.h, n', upd hp.a i (some A), m'⟩ size s = some r := by
  cases s <;> simp only [content, reduceCtorEq] at h ⊢
  · exact h
  · rename_i c b v o n
    by_cases hb : b = i
    · subst hb; rw [hi] at h; cases h
    · simp only [upd, if_neg hb]; exact h
theorem evalEnd {t e : Nat} {z : List V} {p3 : String} {E : Env} {lf : Nat} {S : St} {s : V} {cs : List V} {n : Nat} (ht : tslice P t = some e) (hz : tzero P e = some z) (hl : z.length = tsize P e) (h0 : tsize P e ≠ 0) (hs : S.t 0 = s) (hm : S.hp.a S.hp.m = none)
    (hc : content none S.hp (tsize P e) s = some (cs, n)) (hb : n ≠ 0 → n * tbytes P e ≤ maxRoom ∧ n ≤ maxRoom) :
    ∃ S' a', evalCode P E lf (cloneEnd t p3) S = some (.ret, S') ∧ S'.hp = ⟨S.hp.h, S.hp.n + 4, a', S.hp.m + 4⟩ ∧
      (n = 0 → S'.t 2 = .rsl false S.hp.m 0 0 0 ∧ a' = upd S.hp.a S.hp.m (some ⟨0, tsize P e, [], some 0, 0⟩)) ∧
      (n ≠ 0 → S'.t 2 = .rsl false (S.hp.m + 2) 0 0 n ∧ a' = upd (upd S.hp.a S.hp.m (some ⟨0, tsize P e, [], some 0, 0⟩)) (S.hp.m + 2) (some ⟨0, tsize P e, cs, none, 0⟩)) := by
  have hc' := content_new (n' := S.hp.n + 4) (m' := S.hp.m + 4) (A := ⟨0, tsize P e, [], some 0, 0⟩) hm hc
  have hfz : 0 * tsize P e ≤ 16777216 := by omega
  have hc0 : content none ⟨S.hp.h, S.hp.n + 4, upd S.hp.a S.hp.m (some ⟨0, tsize P e, [], some 0, 0⟩), S.hp.m + 4⟩ (tsize P e) (.rsl false S.hp.m 0 0 0) = some ([], 0) := by
    simp [content, upd, sub]
  have key : ∃ r a', appendV (tsize P e) (tbytes P e) ⟨S.hp.h, S.hp.n + 4, upd S.hp.a S.hp.m (some ⟨0, tsize P e, [], some 0, 0⟩), S.hp.m + 4⟩ (S.hp.m + 2) (.rsl false S.hp.m 0 0 0) s = some (r, ⟨S.hp.h, S.hp.n + 4, a', S.hp.m + 4⟩) ∧
      (n = 0 → r = .rsl false S.hp.m 0 0 0 ∧ a' = upd S.hp.a S.hp.m (some ⟨0, tsize P e, [], some 0, 0⟩)) ∧
      (n ≠ 0 → r = .rsl false (S.hp.m + 2) 0 0 n ∧ a' = upd (upd S.hp.a S.hp.m (some ⟨0, tsize P e, [], some 0, 0⟩)) (S.hp.m + 2) (some ⟨0, tsize P e, cs, none, 0⟩)) := by
    unfold appendV
    rw [hc0, hc']
    simp only
    by_cases hn : n = 0
    · rw [if_pos hn]
      exact ⟨_, _, rfl, fun _ => ⟨rfl, rfl⟩, fun h => absurd hn h⟩
    · rw [if_neg hn, if_pos (by simpa using hb hn)]
      have hpos : 0 < n * tsize P e := Nat.mul_pos (by omega) (by omega)
      refine ⟨.rsl false (S.hp.m + 2) 0 0 n, upd (upd S.hp.a S.hp.m (some ⟨0, tsize P e, [], some 0, 0⟩)) (S.hp.m + 2) (some ⟨0, tsize P e, cs, none, 0⟩), ?_, fun h => absurd h hn, fun _ => ⟨rfl, rfl⟩⟩
      have : ¬ (n * tsize P e ≤ 0 * tsize P e) := by simp; omega
      simp only [upd, if_true, this, if_false, List.nil_append, Nat.zero_add]
  obtain ⟨r, a', k1, k2, k3⟩ := key
  subst hs
  refine ⟨⟨upd (upd (upd (upd S.t 5 (.rsl false S.hp.m 0 0 0)) 6 (S.t 0)) 7 r) 2 r, ⟨S.hp.h, S.hp.n + 4, a', S.hp.m + 4⟩⟩, a', ?_, rfl, fun h => ⟨by simpa [upd] using (k2 h).1, (k2 h).2⟩, fun h => ⟨by simpa [upd] using (k3 h).1, (k3 h).2⟩⟩
  simp only [cloneEnd, evalCode, stepRegion, lateR, stepOps, stepOp, wantedV, loudF, isLoud, isCallV, coreF, frB, Bool.false_and, Bool.or_false, Bool.false_eq_true, if_false, if_true, core, loud, ht, hz, Option.bind_some, List.map, List.length, St.put, St.new, St.bump, val, List.map_nil, fill, List.replicate, List.flatten, hl, hfz, and_true, and_self, if_pos, Nat.add_zero]
  simp [upd, hl, h0, ht, hz, k1, fill]

theorem HSim.none_of {base : Nat} {G : Gh} {hp : Hp} {w : World} (h : HSim base G hp w) {i : Nat} (hf : ∀ v, G.ra i v = none) : hp.a i = none := by
  cases ha : hp.a i with
  | none => rfl
  | some A =>
    obtain ⟨ow, hs⟩ := h
    obtain ⟨r, C, h1, _⟩ := hs.arr i A ha
    rw [hf] at h1; cases h1
theorem upd_self0 {α : Type} (f : Nat → α) (i : Nat) (x : α) : upd f i x i = x := by unfold upd; rw [if_pos rfl]
/-- slices.Clone: a new array with the same cells, or nothing -/
theorem clone_ok {L : World → Prop} (hm : P.follows .mixedOrders = true) {f : Nat} {fn : Func} {t b e : Nat} {z : List V} {p0 p1 p2 p3 : String} (hf : P.funcs[f]? = some fn) (hb : fn.body = some (cloneBody t b p0 p1 p2 p3)) (hr : fn.results = #[.tmp 2]) (hN : fn.ntmps = 8) (hname : fn.name ≠ "runtime.NumGoroutine")
    (ht : tslice P t = some e) (hz : tzero P e = some z) (hl : z.length = tsize P e) (h0 : tsize P e ≠ 0) (hst : isSlT P t = true)
    {av : List V} {hp hp' : Hp} {r : V} (hc : cloneR (tsize P e) (tbytes P e) av hp = some (r, hp')) : Goes P f ∧ RefC P L f av hp r hp' := by
  refine ⟨⟨fn, hf, by rw [hb]; rfl, hname⟩, fun base G w xs hL hs hB hfb hfa hxs => ?_⟩
  unfold cloneR at hc
  split at hc <;> try cases hc
  rename_i s
  have hmn : ∀ k, hp.a (hp.m + k) = none := fun k => hs.none_of (hfa _ (by omega))
  have hbase : ∃ cs n, content none hp (tsize P e) s = some (cs, n) ∧ (n ≠ 0 → n * tbytes P e ≤ maxRoom ∧ n ≤ maxRoom) ∧ (n = 0 → r = .sl true [] 0 ∧ hp' = ⟨hp.h, hp.n + 7, hp.a, hp.m + 7⟩) ∧ (n ≠ 0 → r = .rsl false (hp.m + 5) 0 0 n ∧ hp' = ⟨hp.h, hp.n + 7, upd hp.a (hp.m + 5) (some ⟨0, tsize P e, cs, none, 0⟩), hp.m + 7⟩) := by
    split at hc
    · rename_i cs he
      cases hc
      exact ⟨cs, 0, he, fun h => absurd rfl h, fun _ => ⟨rfl, rfl⟩, fun h => absurd rfl h⟩
    · rename_i cs n he
      split at hc <;> cases hc
      rename_i hbd
      exact ⟨cs, n + 1, he, fun _ => hbd, fun h => (by cases h), fun _ => ⟨rfl, rfl⟩⟩
    · cases hc
  obtain ⟨cs, n, hcon, hbd, hr0, hr1⟩ := hbase
  refine calls_of_wp hf hb ?_
  have hN' : 8 ≤ (xs ++ Array.replicate (fn.ntmps - xs.size) undef).size := by simp; omega
  have hC : CInv [] base G w hp (xs ++ Array.replicate (fn.ntmps - xs.size) undef).size ⟨init [s], hp⟩ { tmps := xs ++ Array.replicate (fn.ntmps - xs.size) undef, defers := [] } w G :=
    ⟨⟨hs, Grow.refl _ _, Below.refl _ _, hB, hfb, hfa, Nat.le_refl _, Nat.le_refl _, fun _ _ => rfl, fun _ _ h => h, hfb, fun _ _ h _ => h⟩, init_ok hxs _, rfl, rfl⟩
  have hE := noEnv_ok (P := P) L
  generalize (xs ++ Array.replicate (fn.ntmps - xs.size) undef).size = N at hN' hC
  generalize ({ tmps := xs ++ Array.replicate (fn.ntmps - xs.size) undef, defers := [] } : Act) = a0 at hC
  -- what is to be shown of a state that has returned
  have fin : ∀ (S : St) (a' : Act) (w' : World) (G' : Gh), CInv [] base G w hp N S a' w' G' → VR G' w' r (a'.tmps.getD 2 undef) → S.hp.h = hp.h → S.hp.n ≤ hp'.n → S.hp.m ≤ hp'.m → hp'.h = hp.h → (∀ i A, hp'.a i = some A → S.hp.a i = some A) →
      bodyPost P fn (fun e w' => ∃ x G', e = Ending.returned x ∧ FInv base G w hp G' hp' w' ∧ VR G' w' r x) .ret a' w' := by
    intro S a' w' G' h hv h1 h2 h3 h4 h5
    refine ⟨h.d, a'.tmps.getD 2 undef, ?_, _, G', rfl, ?_, hv⟩
    · unfold results
      rw [hr]
      simp
    · have := (h.inv.upTo h2 h3).drop h5
      rw [h1, ← h4] at this
      exact this
  unfold cloneBody
  have hd0 : okCode 8 (.region 0 #[{ dst := some 2, op := .assign (.const (.slice none 0 0)), type := t, pos := p0, after := #[], guard := none }] false) = true := rfl
  refine wp_seq (wp_mono (code_ok hE hm hN' hL 0 _ _ a0 w G .normal ((St.bump ⟨init [s], hp⟩ 1).put (some 2) (.sl true [] 0)) hd0 hC rfl) ?_)
  rintro ex a1 w1 ⟨rfl, G1, h1⟩
  generalize hS1 : (St.bump ⟨init [s], hp⟩ 1).put (some 2) (.sl true [] 0) = S1 at h1
  have hs0 : val S1.t (.tmp 0) = s := by rw [← hS1]; rfl
  have hp1 : S1.hp = ⟨hp.h, hp.n + 1, hp.a, hp.m + 1⟩ := by rw [← hS1]; rfl
  have key1 : (Code.region 1 #[{ dst := some 3, op := .move (.tmp 0), type := t, pos := p1, after := #[], guard := none },
          { dst := some 4, op := .binOp .eql t (.tmp 3) (.const (.slice none 0 0)) t, type := b, pos := p1, after := #[⟨0, .data⟩], guard := none }] false).wp P
      (fun e a' w' => e = .normal ∧ ∃ q G', (q = true → n = 0) ∧ CInv [] base G w hp N (((S1.bump 2).put (some 3) s).put (some 4) (.bool q)) a' w' G') a1 w1 := by
    by_cases hq : ∃ c cs', s = .sl c cs' 0
    · obtain ⟨c, cs', rfl⟩ := hq
      have hn0 : n = 0 := by
        simp only [content] at hcon
        split at hcon <;> cases hcon
        rfl
      refine wp_mono (region_fork hE hL rfl ⟨rfl, rfl, rfl⟩ ⟨rfl, rfl, rfl⟩ ⟨by omega, by omega⟩ hst h1 hs0) ?_
      rintro e a' w' ⟨rfl, q, G', h'⟩
      exact ⟨rfl, q, G', fun _ => hn0, h'⟩
    · have hnt : nilTest P .eql t s = some (.bool false) := by
        cases s <;> simp only [content, reduceCtorEq] at hcon
        · rename_i c cs' n'
          cases n' with
          | zero => exact absurd ⟨c, cs', rfl⟩ hq
          | succ k => simp [nilTest, eqv, hst]
        · simp [nilTest, eqv, hst]
      have hbn : binOpN P .eql t (.const (.slice none 0 0)) s (.sl true [] 0) = some (.bool false) := by
        unfold binOpN
        have : Go.Ab.binOp P .eql t s (.sl true [] 0) = none := by
          cases s <;> simp only [content, reduceCtorEq] at hcon <;> rfl
        rw [this]
        exact hnt
      have hev : evalCode P noEnv 0 (.region 1 #[{ dst := some 3, op := .move (.tmp 0), type := t, pos := p1, after := #[], guard := none },
          { dst := some 4, op := .binOp .eql t (.tmp 3) (.const (.slice none 0 0)) t, type := b, pos := p1, after := #[⟨0, .data⟩], guard := none }] false) S1 = some (.normal, ((S1.bump 2).put (some 3) s).put (some 4) (.bool false)) := by
        have e0 : S1.t 0 = s := hs0
        simp [evalCode, stepRegion, lateR, stepOps, stepOp, wantedV, loudF, isLoud, isCallV, coreF, frB, core, St.put, St.new, St.bump, val, e0, ofValue, scalar, upd, hbn]
      refine wp_mono (code_ok hE hm hN' hL 0 _ _ a1 w1 G1 .normal _ (by rfl) h1 hev) ?_
      rintro e a' w' ⟨rfl, G', h'⟩
      exact ⟨rfl, false, G', fun h => (by cases h), h'⟩
  refine wp_seq (wp_seq (wp_mono key1 ?_))
  rintro ex a2 w2 ⟨rfl, q, G2, hq, h2⟩
  have hp2 : (((S1.bump 2).put (some 3) s).put (some 4) (.bool q)).hp = ⟨hp.h, hp.n + 3, hp.a, hp.m + 3⟩ := by simp only [put_hp, St.bump, hp1]
  cases q with
  | true =>
    have hn0 := hq rfl
    obtain ⟨rfl, rfl⟩ := hr0 hn0
    refine wp_mono (code_ok hE hm hN' hL 0 _ _ a2 w2 G2 .ret (((((S1.bump 2).put (some 3) s).put (some 4) (.bool true)).bump 1).put (some 2) (.sl true [] 0)) (by rfl) h2 (by rfl)) ?_
    rintro e a' w' ⟨rfl, G', h'⟩
    refine fin _ a' w' G' h' ?_ ?_ ?_ ?_ rfl ?_
    · have := h'.t 2
      simpa [St.put, upd] using this
    all_goals simp only [put_hp, St.bump, hp1]
    · omega
    · omega
    · exact fun i A h => h
  | false =>
    refine wp_mono (code_ok hE hm hN' hL 0 _ _ a2 w2 G2 .normal (((S1.bump 2).put (some 3) s).put (some 4) (.bool false)) (by rfl) h2 (by rfl)) ?_
    rintro e a' w' ⟨rfl, G', h'⟩
    have hz0 : (((S1.bump 2).put (some 3) s).put (some 4) (.bool false)).t 0 = s := by (have e0 : S1.t 0 = s := hs0); simpa [St.put, upd, St.bump] using e0
    obtain ⟨S', a3, e1, e2, e3, e4⟩ := evalEnd (P := P) (p3 := p3) (E := noEnv) (lf := 0) ht hz hl h0 hz0 (by rw [hp2]; exact hmn 3) (by rw [hp2]; cases s <;> simp only [content, reduceCtorEq] at hcon ⊢ <;> exact hcon) hbd
    rw [hp2] at e2 e3 e4
    refine wp_mono (code_ok hE hm hN' hL 0 (cloneEnd t p3) _ a' w' G' .ret S' (by rfl) h' e1) ?_
    rintro e a4 w4 ⟨rfl, G4, h4⟩
    by_cases hn0 : n = 0
    · obtain ⟨rfl, rfl⟩ := hr0 hn0
      obtain ⟨k1, k2⟩ := e3 hn0
      refine fin S' a4 w4 G4 h4 ?_ (by rw [e2]) (by rw [e2]; simp only; omega) (by rw [e2]; simp only; omega) rfl ?_
      · have hv := h4.t 2
        rw [k1] at hv
        obtain ⟨r0, z0, C0, o0, cap0, g1, g2, g3, g4, g5, g6⟩ := hv
        obtain ⟨ow, hsim⟩ := h4.inv.sim
        have ha : S'.hp.a (hp.m + 3) = some ⟨0, tsize P e, [], some 0, 0⟩ := by rw [e2]; simp only [k2, upd_self0]
        obtain ⟨r1, C1, q1, _, _, q4, _⟩ := hsim.arr _ _ ha
        rw [g1] at q1
        cases q1
        obtain ⟨_, _, _, _, _, _, _, q5, _⟩ := q4
        have := (q5 0 rfl).1
        have h6 := g6 rfl
        have hz' : cap0 * tsize P e = 0 := by simp only at this h6; omega
        have hcap : cap0 = 0 := by rcases Nat.mul_eq_zero.1 hz' with h | h; exact h; exact absurd h h0
        subst hcap
        exact ⟨_, 0, g2, Nat.le_refl _, fun _ => rfl, .inl ⟨rfl, rfl⟩⟩
      · intro i A hA
        have hne : i ≠ hp.m + 3 := fun h => by subst h; rw [hmn 3] at hA; cases hA
        rw [e2]; simp only [k2, upd, if_neg hne]; exact hA
    · obtain ⟨rfl, rfl⟩ := hr1 hn0
      obtain ⟨k1, k2⟩ := e4 hn0
      refine fin S' a4 w4 G4 h4 ?_ (by rw [e2]) (by rw [e2]; simp only; omega) (by rw [e2]; simp only; omega) rfl ?_
      · have hv := h4.t 2
        rw [k1] at hv
        exact hv
      · intro i A hA
        rw [e2]; simp only [k2]
        by_cases h5 : i = hp.m + 5
        · subst h5; simp only [upd, if_true] at hA ⊢; exact hA
        · simp only [upd, if_neg h5] at hA
          have hne : i ≠ hp.m + 3 := fun h => by subst h; rw [hmn 3] at hA; cases hA
          simp only [upd, if_neg hne]; rw [if_neg (by omega)]; exact hA
end Go.Ab
end

section
set_option linter.unusedVariables false
set_option linter.unusedSimpArgs false
set_option linter.unusedSimpArgs false
set_option linter.unusedVariables false
namespace Go.Ab
open Go.RowKit
variable {P : Program}

theorem evalCall_ok {L : World → Prop} (hLB : ∀ w w', L w → Below w.heap.size w w' → L w') (hm : P.follows .mixedOrders = true) {okF : Nat → Bool} {ext : Exts} {extR : ExtsR} {byref : Nat → Bool} (hok : OKF P okF) (hext : EXT P L ext) (hextR : EXTR P L okF extR)
    {k : Nat} {f : Nat} {as : List V} {r : V} (h : dataCall ext (evalR P okF ext extR byref k) f as = some r) : PureC P L f as r := by
  simp only [dataCall] at h
  cases he : ext f with
  | some g => rw [he] at h; exact (hext f g as r he h).2
  | none =>
    rw [he] at h
    simp only at h
    cases hR : evalR P okF ext extR byref k f as Hp.empty with
    | none => rw [hR] at h; cases h
    | some p =>
      obtain ⟨r0, hp1⟩ := p
      rw [hR] at h
      simp only at h
      cases hz : fz 6 hp1 r0 with
      | none => rw [hz] at h; cases h
      | some p2 =>
        obtain ⟨r1, hp2⟩ := p2
        rw [hz] at h
        cases h
        obtain ⟨hgo, href⟩ := evalR_ok hLB hm hok hext hextR k f as Hp.empty r0 hp1 hR
        intro S w xs hLw hS hxs
        refine (href w.heap.size (stab S) w xs (fun w' hw' => hLB w w' hLw hw') ⟨fun _ => none, hS, fun b x hb => (by cases hb), fun i A hA => (by cases hA)⟩ (Nat.le_refl _) (fun _ _ => rfl) (fun _ _ _ => rfl) hxs).mono ?_
        rintro e w' ⟨x, G', rfl, inv, hv⟩
        obtain ⟨ow, hs⟩ := inv.sim
        obtain ⟨G2, F, hv2⟩ := fz_ok 6 G' hp1 r0 r hp2 x hz hs hv
        refine ⟨x, G2.S, rfl, inv.below, fun q o hq => F.grow.S q o (inv.grow.S q o hq), fun q o hq => ⟨F.sim.S q o hq, fun hlt => ?_⟩, hv2⟩
        exact inv.s0 q o (F.s0 q o hq hlt) hlt
/-- what the evaluator says of a call upon data, the machine does -/
theorem Ev.pure {C : Cfg} {L : World → Prop} (hLB : ∀ w w', L w → Below w.heap.size w w' → L w') (hm : C.P.follows .mixedOrders = true) (hok : OKF C.P C.okF) (hext : EXT C.P L C.ext) (hextR : EXTR C.P L C.okF C.extR)
    {f : Nat} {as : List V} {r : V} (h : C.Ev f as r) : PureC C.P L f as r := by
  obtain ⟨K, hK⟩ := h.out
  exact evalCall_ok hLB hm hok hext hextR (hK K (Nat.le_refl _))

/-! ### what reads as a type -/
def inW (w : World) : Nat → Nat → Prop := fun r _ => r < w.heap.size
/-- what reads as a type is some such data -/
structure Opens (P : Program) (N : Nat) (t : TypeId) (R : List V → Prop) : Prop where
  out : ∀ {H : Type} (enc : TypeId × Value → H) (w : World) (base : Nat) (spare : Nat → Bool) (held : Bool) (fuel : Nat), fuel < N → ∀ (cs : List Value) (x : DataW H × List MemPlace), DataW.trod enc P w base spare held fuel t cs = some x →
    ∃ vs, R vs ∧ VRs (stab (inW w)) w vs cs ∧ ∀ c ∈ cs, Sc c
theorem Opens.mono {N : Nat} {t : TypeId} {R R' : List V → Prop} (h : Opens P N t R) (hR : ∀ vs, R vs → R' vs) : Opens P N t R' := ⟨fun enc w base spare held fuel hf cs x hx => by
  obtain ⟨vs, h1, h2⟩ := h.out enc w base spare held fuel hf cs x hx
  exact ⟨vs, hR vs h1, h2⟩⟩
theorem Opens.le {N M : Nat} {t : TypeId} {R : List V → Prop} (hM : M ≤ N) (h : Opens P N t R) : Opens P M t R := ⟨fun enc w base spare held fuel hf => h.out enc w base spare held fuel (by omega)⟩
theorem opens_int {N : Nat} {t : TypeId} {k : IntKind} (ht : P.underlying t = some (.int k)) : Opens P N t (fun vs => ∃ n : Int, vs = [.int k n] ∧ (Lit.int k n).wf = true) := by
  refine ⟨?_⟩
  intro H enc w base spare held fuel _ cs x hx
  obtain ⟨n, rfl, _, hw⟩ := DataW.trod_int ht hx
  exact ⟨_, ⟨n, rfl, hw⟩, ⟨_, _, rfl, rfl, rfl⟩, fun c hc => by rcases List.mem_singleton.1 hc with rfl; rfl⟩
theorem opens_bool {N : Nat} {t : TypeId} (ht : P.underlying t = some .bool) : Opens P N t (fun vs => ∃ b : Bool, vs = [.bool b]) := by
  refine ⟨?_⟩
  intro H enc w base spare held fuel _ cs x hx
  obtain ⟨n, rfl, _⟩ := DataW.trod_bool ht hx
  exact ⟨_, ⟨n, rfl⟩, ⟨_, _, rfl, rfl, rfl⟩, fun c hc => by rcases List.mem_singleton.1 hc with rfl; rfl⟩
theorem opens_string {N : Nat} {t : TypeId} (ht : P.underlying t = some .string) : Opens P N t (fun vs => ∃ s : ByteArray, vs = [.str s] ∧ s.size ≤ 9223372036854775807) := by
  refine ⟨?_⟩
  intro H enc w base spare held fuel _ cs x hx
  obtain ⟨s, rfl, _, hw⟩ := DataW.trod_string ht hx
  exact ⟨_, ⟨s, rfl, by unfold maxLen at hw; omega⟩, ⟨_, _, rfl, rfl, rfl⟩, fun c hc => by rcases List.mem_singleton.1 hc with rfl; rfl⟩
theorem VRC.of_app {G : Gh} {w : World} : ∀ {us vs : List V} {r o : Nat}, VRC G w us r o → VRC G w vs r (o + us.length) → VRC G w (us ++ vs) r o
  | [], vs, r, o, _, h => by simpa using h
  | u :: us, vs, r, o, h, k => by
    obtain ⟨h1, h2, h3⟩ := h
    refine ⟨h1, h2, VRC.of_app h3 ?_⟩
    rw [List.length_cons] at k
    rw [show o + 1 + us.length = o + (us.length + 1) by omega]; exact k
theorem stab_pu (S : Nat → Nat → Prop) : (stab S).pu = stab S := rfl
/-- a slice of such data -/
theorem opens_slice {N m : Nat} {t e : TypeId} {R : List V → Prop} (ht : P.underlying t = some (.slice e)) (hc : P.cellsOf e = m) (hm : 0 < m) (hR : ∀ vs, R vs → vs.length = m) (h : Opens P N e R) :
    Opens P (N + 1) t (fun vs => ∃ parts : List (List V), vs = [.sl false parts.flatten parts.length] ∧ parts.length ≤ 9223372036854775807 ∧ ∀ p ∈ parts, R p) := by
  refine ⟨?_⟩
  intro H enc w base spare held fuel hf cs x hx
  rcases DataW.trod_slice ht hx with ⟨rfl, _⟩ | ⟨a, len, cap, elems, rest, n, rfl, rfl, _, hb, hlc, hcm, hel, hread, _, _⟩
  · exact ⟨_, ⟨[], rfl, by simp, fun p hp => by cases hp⟩, ⟨_, _, rfl, ⟨none, 0, rfl, Nat.le_refl _, fun h => rfl, .inl ⟨rfl, rfl⟩⟩, rfl⟩, fun c hc => by rcases List.mem_singleton.1 hc with rfl; rfl⟩
  rw [hc] at hread
  have hspot : 0 < len → a.spot = none := by
    intro hpos
    have hr := hread 0 hpos
    rw [List.getElem?_eq_getElem (by omega)] at hr
    obtain ⟨c, hc1, _⟩ := Option.bind_eq_some_iff.1 hr
    obtain ⟨_, hcl, hcell⟩ := World.cells?_some hc1
    have hu := hcell 0 hm
    rw [List.getElem?_eq_getElem (by omega)] at hu
    have e : (a.add (0 * m)).add 0 = a := by simp [Addr.add]
    rw [e] at hu
    cases hs : a.spot with
    | none => rfl
    | some z =>
      unfold World.cell? at hu
      split at hu
      · rw [if_pos (by simp [hs])] at hu; cases hu
      · cases hu
  have key : ∀ i, i < len → ∃ p, R p ∧ VRC (stab (inW w)) w p a.block (a.off + i * m) := by
    intro i hi
    have hs := hspot (by omega)
    have hr := hread i hi
    rw [List.getElem?_eq_getElem (by omega)] at hr
    obtain ⟨c, hc1, hc2⟩ := Option.bind_eq_some_iff.1 hr
    obtain ⟨p, hp, hv, hsc⟩ := h.out enc w base spare held n (by omega) c _ hc2
    obtain ⟨_, hcl, hcell⟩ := World.cells?_some hc1
    have hpl := hR p hp
    have hplen := hv.length
    refine ⟨p, hp, VRC.of_get fun j v hj => ?_⟩
    have hjl : j < m := by have := (List.getElem?_eq_some_iff.1 hj).1; omega
    have hu2 := hcell j hjl
    have e : (a.add (i * m)).add j = ⟨a.block, a.off + i * m + j, none⟩ := by
      obtain ⟨ab, ao, as'⟩ := a
      simp only at hs
      subst hs
      rw [add_at, add_at]
    rw [e] at hu2
    obtain ⟨u', hu', hv'⟩ := hv.get j v hj
    rw [hu'] at hu2
    refine ⟨?_, u', hu2, hsc u' (List.mem_of_getElem? hu'), hv'⟩
    show a.block < w.heap.size
    unfold World.cell? at hu2
    split at hu2
    · rename_i hh; exact lt_of_heap hh
    · cases hu2
  obtain ⟨f, hf⟩ : ∃ f : Nat → List V, ∀ i, i < len → R (f i) ∧ VRC (stab (inW w)) w (f i) a.block (a.off + i * m) :=
    ⟨fun i => if h : i < len then Classical.choose (key i h) else [], fun i hi => by simp only [dif_pos hi]; exact Classical.choose_spec (key i hi)⟩
  have hall : ∀ k, k ≤ len → VRC (stab (inW w)) w (((List.range k).map f).flatten) a.block a.off ∧ (((List.range k).map f).flatten).length = k * m := by
    intro k
    induction k with
    | zero => intro _; exact ⟨trivial, by simp⟩
    | succ k ih =>
      intro hk
      obtain ⟨h1, h2⟩ := ih (by omega)
      obtain ⟨g1, g2⟩ := hf k (by omega)
      rw [List.range_succ, List.map_append, List.flatten_append]
      simp only [List.map_cons, List.map_nil, List.flatten_cons, List.flatten_nil, List.append_nil]
      refine ⟨VRC.of_app h1 (by rw [h2]; exact g2), ?_⟩
      rw [List.length_append, h2, hR _ g1, Nat.add_mul, Nat.one_mul]
  have hlen : ((List.range len).map f).length = len := by simp
  refine ⟨_, ⟨(List.range len).map f, rfl, by rw [hlen]; unfold maxLen at hcm; omega, fun p hp => ?_⟩, ⟨_, _, rfl, ?_, rfl⟩, fun c hc => by rcases List.mem_singleton.1 hc with rfl; rfl⟩
  · obtain ⟨i, hi, rfl⟩ := List.mem_map.1 hp
    exact (hf i (List.mem_range.1 hi)).1
  · rw [hlen]
    refine ⟨some a, cap, rfl, hlc, fun h => (by cases h), ?_⟩
    by_cases h0 : len = 0
    · subst h0; exact .inl ⟨rfl, rfl⟩
    · have hs := hspot (by omega)
      refine .inr ⟨a.block, a.off, ?_, (hall len (Nat.le_refl _)).1⟩
      cases a; simp only at hs; subst hs; rfl

theorem VRs.of_app {G : Gh} {w : World} : ∀ {us vs : List V} {cs ds : List Value}, VRs G w us cs → VRs G w vs ds → VRs G w (us ++ vs) (cs ++ ds) := fun h k => h.append k
/-- the fields lie one behind the other -/
def contig (P : Program) : Nat → List Field → Option Nat
  | o, [] => some o
  | o, f :: fs => if f.offset = o then contig P (o + P.cellsOf f.type) fs else none
theorem opens_fields {N : Nat} {Rf : Nat → List V → Prop} {H : Type} (enc : TypeId × Value → H) (w : World) (base : Nat) (spare : Nat → Bool) (held : Bool) (n : Nat) (hn : n < N) (cs : List Value) (xs : List (DataW H × List MemPlace)) :
    ∀ (fs : List Field) (i o tot : Nat), contig P o fs = some tot → tot = cs.length → (∀ (j : Nat) (f : Field), fs[j]? = some f → Opens P N f.type (Rf (i + j)) ∧ ∃ x, DataW.trod enc P w base spare held n f.type ((cs.drop f.offset).take (P.cellsOf f.type)) = some x) →
      o ≤ cs.length ∧ ∃ parts : List (List V), parts.length = fs.length ∧ (∀ j p, parts[j]? = some p → Rf (i + j) p) ∧ VRs (stab (inW w)) w parts.flatten (cs.drop o) ∧ ∀ c ∈ cs.drop o, Sc c
  | [], i, o, tot, hc, ht, _ => by
    cases hc
    subst ht
    exact ⟨Nat.le_refl _, [], rfl, fun j p h => by simp at h, by simp [VRs], fun c hc => by simp at hc⟩
  | f :: fs, i, o, tot, hc, ht, hf => by
    simp only [contig] at hc
    split at hc <;> try cases hc
    rename_i hfo
    obtain ⟨hle, parts, h1, h2, h3, h4⟩ := opens_fields (Rf := Rf) enc w base spare held n hn cs xs fs (i + 1) (o + P.cellsOf f.type) tot hc ht (fun j g hg => by
      have := hf (j + 1) g (by simpa using hg)
      rw [show i + (j + 1) = i + 1 + j by omega] at this; exact this)
    obtain ⟨g1, x, g2⟩ := hf 0 f rfl
    rw [hfo] at g2
    obtain ⟨vs, k1, k2, k3⟩ := g1.out enc w base spare held n hn _ x g2
    have hdrop : cs.drop o = (cs.drop o).take (P.cellsOf f.type) ++ cs.drop (o + P.cellsOf f.type) := by
      rw [← List.drop_drop, List.take_append_drop]
    refine ⟨by omega, vs :: parts, by simp [h1], fun j p hj => ?_, ?_, fun c hc => ?_⟩
    · cases j with
      | zero => simp at hj; subst hj; exact k1
      | succ j => have := h2 j p (by simpa using hj); rw [show i + 1 + j = i + (j + 1) by omega] at this; exact this
    · rw [hdrop, List.flatten_cons]; exact k2.append h3
    · rw [hdrop] at hc
      rcases List.mem_append.1 hc with hc | hc
      · exact k3 c hc
      · exact h4 c hc
/-- a struct of such data -/
theorem opens_struct {N : Nat} {t : TypeId} {fs : Array Field} {Rf : Nat → List V → Prop} (ht : P.underlying t = some (.struct fs)) (hc : contig P 0 fs.toList = some (P.cellsOf t)) (h : ∀ (j : Nat) (f : Field), fs[j]? = some f → Opens P N f.type (Rf j)) :
    Opens P (N + 1) t (fun vs => ∃ parts : List (List V), parts.length = fs.size ∧ vs = parts.flatten ∧ ∀ j p, parts[j]? = some p → Rf j p) := by
  refine ⟨?_⟩
  intro H enc w base spare held fuel hf cs x hx
  obtain ⟨xs, n, rfl, rfl, hl, hlen, hx⟩ := DataW.trod_struct ht hx
  obtain ⟨_, parts, h1, h2, h3, h4⟩ := opens_fields (N := N) (Rf := Rf) enc w base spare held n (by omega) cs xs fs.toList 0 0 _ hc hl.symm (fun j f hj => by
    have hj' : fs[j]? = some f := by simpa using hj
    rw [Nat.zero_add]
    refine ⟨h j f hj', ?_⟩
    have := hx j f hj'
    have hlt : j < fs.size := (Array.getElem?_eq_some_iff.1 hj').1
    exact ⟨_, this.trans (List.getElem?_eq_getElem (by omega))⟩)
  exact ⟨_, ⟨parts, by simpa using h1, rfl, fun j p hj => by have := h2 j p hj; simpa using this⟩, by simpa using h3, by simpa using h4⟩

section
variable {H : Type} {enc : TypeId × Value → H} {w : World} {base : Nat} {spare : Nat → Bool} {held : Bool}
/-- a struct among the arguments -/
theorem arg_struct {r : Reach} {b0 : Nat} {t : TypeId} {fs : Array Field} {R : List V → Prop} {v : Value} {d : DataW H} {ps : List MemPlace} (ht : P.underlying t = some (.struct fs)) (hO : ∀ N, Opens P N t R) (hval : Value.okWide P w r b0 t v) (h : DataW.Trod enc P w base spare held t v d ps) :
    ∃ vs, R vs ∧ VR (stab (inW w)) w (.agg vs) v := by
  obtain ⟨cs, rfl, _⟩ := Go.WideShapes.okWide_struct ht hval
  obtain ⟨fuel, hf⟩ := h
  obtain ⟨vs, h1, h2, h3⟩ := (hO (fuel + 1)).out enc w base spare held fuel (Nat.lt_succ_self _) _ _ hf
  exact ⟨vs, h1, cs, rfl, h3, h2⟩
/-- a slice among the arguments -/
theorem arg_slice {r : Reach} {b0 : Nat} {t e : TypeId} {R : List V → Prop} {v : Value} {d : DataW H} {ps : List MemPlace} (ht : P.underlying t = some (.slice e)) (hO : ∀ N, Opens P N t R) (hval : Value.okWide P w r b0 t v) (h : DataW.Trod enc P w base spare held t v d ps) :
    ∃ vs, R vs ∧ VRs (stab (inW w)) w vs [v] := by
  obtain ⟨fuel, hf⟩ := h
  obtain ⟨vs, h1, h2, h3⟩ := (hO (fuel + 1)).out enc w base spare held fuel (Nat.lt_succ_self _) _ _ hf
  have hv : v.cells.toList = [v] := by
    cases v <;> first | rfl | (exfalso; simp [Value.okWide, ht, Cell.okWide, Cell.ok] at hval)
  rw [hv] at h2
  exact ⟨vs, h1, h2⟩
end
def okAll (P : Program) (okF : Nat → Bool) (n : Nat) : Bool := (List.range n).all fun f => !okF f || (match P.funcs[f]? with | some fn => (match fn.body with | some b => okCode fn.ntmps b && fn.name != "runtime.NumGoroutine" | none => true) | none => true)
theorem OKF.of {okF : Nat → Bool} (n : Nat) (hn : ∀ f, okF f = true → f < n) (h : okAll P okF n = true) : OKF P okF := by
  intro f fn body hf h1 h2
  have := List.all_eq_true.1 h f (List.mem_range.2 (hn f hf))
  simpa [hf, h1, h2] using this
end Go.Ab
end

section
set_option linter.unusedVariables false
set_option linter.unusedSimpArgs false
set_option linter.unusedSimpArgs false
set_option linter.unusedVariables false
namespace Go.Ab
/-- data that neither freezing nor a round's end changes -/
def cold : V → Bool
  | .bool _ | .int _ _ | .str _ | .sl false _ _ | .ptr _ _ | .nilp | .nilfn | .fn _ [] => true
  | _ => false
theorem fz_cold (d : Nat) (hp : Hp) {c : V} (h : cold c = true) : fz (d + 1) hp c = some (c, hp) := by
  cases c <;> simp only [cold, Bool.false_eq_true] at h <;> try rfl
  · rename_i b cs n; cases b <;> simp only [cold, Bool.false_eq_true] at h; rfl
  · rename_i f cap; cases cap <;> simp only [cold, Bool.false_eq_true] at h; rfl
theorem fzL_cold (d : Nat) : ∀ (hp : Hp) (cs : List V), (∀ c ∈ cs, cold c = true) → fzL (fz (d + 1)) hp cs = some (cs, hp)
  | _, [], _ => rfl
  | hp, c :: cs, h => by
    simp only [fzL, fz_cold d hp (h c List.mem_cons_self), fzL_cold d hp cs (fun x hx => h x (List.mem_cons_of_mem _ hx))]
theorem clean_cold (n : Nat) {c : V} (h : cold c = true) : cleanV n c = c := by
  cases c <;> simp only [cold, Bool.false_eq_true] at h <;> try rfl
  rename_i f cap; cases cap <;> simp only [cold, Bool.false_eq_true] at h; rfl
theorem cleans_cold (n : Nat) {cs : List V} (h : ∀ c ∈ cs, cold c = true) : cs.map (cleanV n) = cs := by
  conv => rhs; rw [← List.map_id cs]
  exact List.map_congr_left fun c hc => clean_cold n (h c hc)
theorem fz_rsl (d : Nat) (hp : Hp) (c : Bool) (b w o n : Nat) : fz (d + 1) hp (.rsl c b w o n) = (match hp.a b with
      | some A => if A.ver = w ∧ o + n * A.sz ≤ A.cs.length then
          match fzL (fz d) { hp with a := upd hp.a b (some { A with ro := max A.ro (o + n * A.sz) }) } (sub A.cs o (n * A.sz)) with
          | some (cs', hp') => some (.sl false cs' n, hp')
          | none => none
        else none
      | none => none) := rfl
/-- a slice that grows: nothing yet, or an array of the call's own -/
structure Gro (sz : Nat) (a : Nat → Option Arr) (m : Nat) (s : V) (cs : List V) (n : Nat) : Prop where
  len : cs.length = n * sz
  cold : ∀ c ∈ cs, cold c = true
  is : (s = .sl true [] 0 ∧ n = 0) ∨ ∃ b v, b < m ∧ s = .rsl false b v 0 n ∧ a b = some ⟨v, sz, cs, none, 0⟩
theorem Gro.nil (sz : Nat) (a : Nat → Option Arr) (m : Nat) : Gro sz a m (.sl true [] 0) [] 0 := ⟨by simp, fun c hc => (by cases hc), .inl ⟨rfl, rfl⟩⟩
theorem Gro.form {sz : Nat} {a : Nat → Option Arr} {m : Nat} {s : V} {cs : List V} {n : Nat} (h : Gro sz a m s cs n) : (s = .sl true [] 0 ∧ n = 0) ∨ ∃ b v, s = .rsl false b v 0 n := by
  rcases h.is with h | ⟨b, v, _, h, _⟩
  · exact .inl h
  · exact .inr ⟨b, v, h⟩
theorem Gro.trunc {sz : Nat} {z : St} {m M k : Nat} {s : V} {cs : List V} {n : Nat} (h : Gro sz z.hp.a m s cs n) (hm : m ≤ M) : Gro sz (z.trunc k).hp.a M (cleanV k s) cs n := by
  refine ⟨h.len, h.cold, ?_⟩
  rcases h.is with ⟨rfl, h0⟩ | ⟨b, v, hb, rfl, ha⟩
  · exact .inl ⟨rfl, h0⟩
  · refine .inr ⟨b, v, by omega, rfl, ?_⟩
    show (match z.hp.a b with | some A => some { A with cs := A.cs.map (cleanV k) } | none => none) = _
    rw [ha]
    simp only [cleans_cold k h.cold]
theorem Gro.mono {sz : Nat} {a a' : Nat → Option Arr} {m M : Nat} {s : V} {cs : List V} {n : Nat} (h : Gro sz a m s cs n) (ha : ∀ b, b < m → a' b = a b) (hm : m ≤ M) : Gro sz a' M s cs n := by
  refine ⟨h.len, h.cold, ?_⟩
  rcases h.is with h' | ⟨b, v, hb, e, hx⟩
  · exact .inl h'
  · exact .inr ⟨b, v, by omega, e, by rw [ha b hb]; exact hx⟩
theorem Gro.content {sz : Nat} {hp : Hp} {m : Nat} {s : V} {cs : List V} {n : Nat} (h : Gro sz hp.a m s cs n) : content none hp sz s = some (cs, n) := by
  rcases h.is with ⟨rfl, rfl⟩ | ⟨b, v, _, rfl, ha⟩
  · have := h.len
    simp at this
    subst this
    simp [Go.Ab.content]
  · simp [Go.Ab.content, ha, h.len, sub, List.take_of_length_le]
theorem Gro.fz {sz d : Nat} {hp : Hp} {m : Nat} {s : V} {cs : List V} {n : Nat} (h : Gro sz hp.a m s cs n) : ∃ hp', Go.Ab.fz (d + 2) hp s = some (.sl false cs n, hp') := by
  rcases h.is with ⟨rfl, rfl⟩ | ⟨b, v, _, rfl, ha⟩
  · have := h.len
    simp at this
    subst this
    exact ⟨hp, rfl⟩
  · have e : sub cs 0 (n * sz) = cs := by simp [sub, List.take_of_length_le, h.len]
    refine ⟨{ hp with a := upd hp.a b (some ⟨v, sz, cs, none, max 0 (0 + n * sz)⟩) }, ?_⟩
    rw [fz_rsl, ha]
    dsimp only
    rw [if_pos ⟨rfl, by rw [h.len]; omega⟩, e, fzL_cold d _ cs h.cold]
/-- append, x being something known -/
theorem Gro.app {sz bytes ida m M : Nat} {hp : Hp} {s x : V} {cs xs : List V} {n k : Nat} {Q : V × Hp → Prop} (h : Gro sz hp.a m s cs n) (hx : Go.Ab.content none hp sz x = some (xs, k)) (hk : k ≠ 0) (hxl : xs.length = k * sz) (hc : ∀ c ∈ xs, Go.Ab.cold c = true)
    (hb : (n + k) * bytes ≤ maxRoom ∧ n + k ≤ maxRoom) (hi : ida < M) (hm : m ≤ M)
    (q : ∀ b v a', Gro sz a' M (.rsl false b v 0 (n + k)) (cs ++ xs) (n + k) → (∀ i, i ≠ b → a' i = hp.a i) → (b = ida ∨ ∃ v' n', s = .rsl false b v' 0 n') → Q (.rsl false b v 0 (n + k), ⟨hp.h, hp.n, a', hp.m⟩)) : opt (appendV sz bytes hp ida s x) Q := by
  have hl : (cs ++ xs).length = (n + k) * sz := by rw [List.length_append, h.len, hxl, Nat.add_mul]
  have hcold : ∀ c ∈ cs ++ xs, Go.Ab.cold c = true := fun c hc' => by
    rcases List.mem_append.1 hc' with h' | h'
    · exact h.cold c h'
    · exact hc c h'
  rcases h.is with ⟨rfl, rfl⟩ | ⟨b, v, hbm, rfl, ha⟩
  · have h0 := h.len
    simp at h0
    subst h0
    have : appendV sz bytes hp ida (.sl true [] 0) x = some (.rsl false ida 0 0 (0 + k), { hp with a := upd hp.a ida (some ⟨0, sz, [] ++ xs, none, 0⟩) }) := by
      unfold appendV
      rw [h.content, hx]
      simp only
      rw [if_neg hk, if_pos hb]
    rw [this]
    exact q ida 0 _ ⟨hl, hcold, .inr ⟨ida, 0, hi, rfl, by unfold upd; rw [if_pos rfl]⟩⟩ (fun i hne => by unfold upd; rw [if_neg hne]) (.inl rfl)
  · have : appendV sz bytes hp ida (.rsl false b v 0 n) x = some (.rsl false b (v + 1) 0 (n + k), { hp with a := upd hp.a b (some ⟨v + 1, sz, cs ++ xs, none, 0⟩) }) := by
      unfold appendV
      rw [h.content, hx]
      simp only
      rw [if_neg hk, if_pos hb, ha]
      simp only
      rw [if_pos ⟨trivial, h.len.symm⟩]
    rw [this]
    exact q b (v + 1) _ ⟨hl, hcold, .inr ⟨b, v + 1, by omega, rfl, by unfold upd; rw [if_pos rfl]⟩⟩ (fun i hne => by unfold upd; rw [if_neg hne]) (.inr ⟨v, n, rfl⟩)
/-- append of nothing -/
theorem Gro.app0 {sz bytes ida : Nat} {hp : Hp} {s x : V} {cs xs : List V} {n : Nat} {Q : V × Hp → Prop} {m : Nat} (h : Gro sz hp.a m s cs n) (hx : Go.Ab.content none hp sz x = some (xs, 0)) (q : Q (s, hp)) : opt (appendV sz bytes hp ida s x) Q := by
  have : appendV sz bytes hp ida s x = some (s, hp) := by
    unfold appendV
    rw [h.content, hx]
    simp
  rw [this]
  exact q
/-- the end of a call, still to be shown -/
structure Fin (P : Program) (fn : Func) (s : St) (R : V → Prop) : Prop where
  out : opt (resOf P fn s) fun r' => opt (fz 6 s.hp r') fun p => R p.1
theorem Fin.gro {P : Program} {fn : Func} {s : St} {R : V → Prop} {sz m n : Nat} {cs : List V} {x : V} (h : resOf P fn s = some x) (ha : Gro sz s.hp.a m x cs n) (hR : R (.sl false cs n)) : Fin P fn s R := by
  refine ⟨?_⟩
  rw [h]
  obtain ⟨a', e⟩ := ha.fz (d := 4)
  show opt (fz 6 s.hp x) fun p => R p.1
  rw [e]
  exact hR
/-- loads and stores of one array's elements -/
theorem opt_look {hp : Hp} {lim : Option (Nat × Nat)} {b v o n sz ro : Nat} {cs : List V} {cap : Option Nat} {Q : List V → Prop} (h : hp.a b = some ⟨v, sz, cs, cap, ro⟩) (hl : ∀ l, lim = some l → b < l.2) (hle : o + n ≤ cs.length) (q : Q (sub cs o n)) : opt (look lim hp (.aref b v o) n) Q := by
  have : look lim hp (.aref b v o) n = some (sub cs o n) := by
    cases lim with
    | none => simp [look, h, hle]
    | some l => simp [look, h, hle, hl l rfl]
  rw [this]; exact q
theorem opt_store {hp : Hp} {b v o sz ro : Nat} {cs vs : List V} {cap : Option Nat} {Q : V × Hp → Prop} (h : hp.a b = some ⟨v, sz, cs, cap, ro⟩) (hro : ro ≤ o) (hle : o + vs.length ≤ cs.length)
    (q : ∀ a', a' b = some ⟨v, sz, fillL cs o vs, cap, ro⟩ → (∀ i, i ≠ b → a' i = hp.a i) → Q (.tup [], ⟨hp.h, hp.n, a', hp.m⟩)) : opt ((storeV hp (.aref b v o) vs).bind fun hp' => some (.tup [], hp')) Q := by
  have : storeV hp (.aref b v o) vs = some ⟨hp.h, hp.n, upd hp.a b (some ⟨v, sz, fillL cs o vs, cap, ro⟩), hp.m⟩ := by
    simp [storeV, h, hro, hle]
  rw [this]
  exact q _ (by unfold upd; rw [if_pos rfl]) (fun i hne => by unfold upd; rw [if_neg hne])
end Go.Ab
namespace Go.Ab
theorem clean_flat (n : Nat) {c : V} (h : flatV c = true) : cleanV n c = c := by
  cases c <;> simp only [flatV, Bool.false_eq_true] at h <;> rfl
theorem cleans_flat (n : Nat) {cs : List V} (h : ∀ c ∈ cs, flatV c = true) : cs.map (cleanV n) = cs := by
  conv => rhs; rw [← List.map_id cs]
  exact List.map_congr_left fun c hc => clean_flat n (h c hc)
/-- a place of a row turned -/
theorem fill_take {cs vs : List V} {o : Nat} (h : o + vs.length ≤ cs.length) : (fillL cs o vs).take (o + vs.length) = cs.take o ++ vs := by
  unfold fillL
  have h1 : (cs.take o ++ vs).length = o + vs.length := by rw [List.length_append, List.length_take]; omega
  rw [List.take_append_of_le_length (by omega), List.take_of_length_le (by omega)]
theorem fill_len {cs vs : List V} {o : Nat} (h : o + vs.length ≤ cs.length) : (fillL cs o vs).length = cs.length := by
  unfold fillL
  simp only [List.length_append, List.length_take, List.length_drop]; omega
theorem fill_mem {cs vs : List V} {o : Nat} {c : V} (h : c ∈ fillL cs o vs) : c ∈ cs ∨ c ∈ vs := by
  unfold fillL at h
  rcases List.mem_append.1 h with h | h
  · rcases List.mem_append.1 h with h | h
    · exact .inl (List.mem_of_mem_take h)
    · exact .inr h
  · exact .inl (List.mem_of_mem_drop h)
end Go.Ab
namespace Go.Ab
/-- make([]T, n, n) -/
theorem opt_make {P : Program} {call : Call} {lim : Option (Nat × Nat)} {ρ : Operand → V} {hp : Hp} {idb ida : Nat} {o : Oper} {t e : Nat} {l c : Operand} {z : List V} {n : Nat} {k k' : IntKind} {Q : V × New → Prop} (ho : o.op = .makeSlice t l c) (ht : tslice P t = some e) (hz : tzero P e = some z) (hl : z.length = tsize P e)
    (h1 : ρ l = .int k (n : Int)) (h2 : ρ c = .int k' (n : Int)) (hb : n * tbytes P e ≤ maxRoom ∧ n ≤ maxRoom) (q : Q (.rsl false ida 0 0 n, .arr ⟨0, tsize P e, (List.replicate n z).flatten, some n, 0⟩)) : opt (core P call lim ρ hp idb ida o) Q := by
  obtain ⟨dst, op, ty, pos, after, guard⟩ := o
  simp only at ho
  subst ho
  have : core P call lim ρ hp idb ida { dst := dst, op := .makeSlice t l c, type := ty, pos := pos, after := after, guard := guard } = some (.rsl false ida 0 0 n, .arr ⟨0, tsize P e, (List.replicate n z).flatten, some n, 0⟩) := by
    simp only [core, ht, h1, h2, hz, Option.bind_some]
    rw [if_pos]
    · simp
    · simp only [Int.toNat_natCast]
      exact ⟨by omega, by omega, hb.1, hb.2, hl⟩
  rw [this]
  exact q
theorem flat_zero {z : List V} (hz : ∀ c ∈ z, flatV c = true) (n : Nat) : ∀ c ∈ (List.replicate n z).flatten, flatV c = true := by
  intro c hc
  obtain ⟨l, hl, hc⟩ := List.mem_flatten.1 hc
  rw [(List.mem_replicate.1 hl).2] at hc
  exact hz c hc
theorem len_zero {z : List V} (n : Nat) : ((List.replicate n z).flatten).length = n * z.length := by
  induction n with
  | zero => simp
  | succ n ih => rw [List.replicate_succ, List.flatten_cons, List.length_append, ih, Nat.add_mul]; omega
theorem fz_full {d : Nat} {hp : Hp} {b v n sz : Nat} {cs : List V} {cap : Option Nat} (h : hp.a b = some ⟨v, sz, cs, cap, 0⟩) (hl : cs.length = n * sz) (hc : ∀ c ∈ cs, cold c = true) : fz (d + 2) hp (.rsl false b v 0 n) = some (.sl false cs n, { hp with a := upd hp.a b (some ⟨v, sz, cs, cap, max 0 (0 + n * sz)⟩) }) := by
  have e : sub cs 0 (n * sz) = cs := by simp [sub, List.take_of_length_le, hl]
  rw [fz_rsl, h]
  dsimp only
  rw [if_pos ⟨rfl, by rw [hl]; omega⟩, e, fzL_cold d _ cs hc]
end Go.Ab
namespace Go.Ab
/-- a value with a row of the call's own is handed out -/
theorem Fin.row {P : Program} {fn : Func} {s : St} {R : V → Prop} {a b : Int} {t : ByteArray} {i n v : Nat} {cs : List V} {cap : Option Nat} {k1 k2 : IntKind} (h : resOf P fn s = some (.agg [.int k1 a, .int k2 b, .str t, .rsl false i v 0 n])) (ha : s.hp.a i = some ⟨v, 4, cs, cap, 0⟩) (hl : cs.length = n * 4) (hc : ∀ c ∈ cs, cold c = true)
    (hR : R (.agg [.int k1 a, .int k2 b, .str t, .sl false cs n])) : Fin P fn s R := by
  refine ⟨?_⟩
  rw [h]
  have e := fz_full (d := 3) ha hl hc
  have : fz 6 s.hp (.agg [.int k1 a, .int k2 b, .str t, .rsl false i v 0 n]) = some (.agg [.int k1 a, .int k2 b, .str t, .sl false cs n], { s.hp with a := upd s.hp.a i (some ⟨v, 4, cs, cap, max 0 (0 + n * 4)⟩) }) := by
    show (match fzL (fz 5) s.hp [.int k1 a, .int k2 b, .str t, .rsl false i v 0 n] with
      | some (cs', hp') => some (V.agg cs', hp')
      | none => none) = _
    simp only [fzL, fz_cold 4 s.hp (c := .int k1 a) rfl, fz_cold 4 s.hp (c := .int k2 b) rfl, fz_cold 4 s.hp (c := .str t) rfl, e]
  show opt (fz 6 s.hp _) fun p => R p.1
  rw [this]
  exact hR
end Go.Ab
namespace Go.Ab
theorem upd_lt {α : Type} {f : Nat → α} {k b : Nat} {x : α} (h : b < k) : upd f k x b = f b := by unfold upd; rw [if_neg (by omega)]
theorem upd_is {α : Type} (f : Nat → α) (i : Nat) (x : α) : upd f i x i = x := by unfold upd; rw [if_pos rfl]
/-- append of one element that has just been laid -/
theorem Gro.one {sz bytes ida m : Nat} {hp : Hp} {a0 : Nat → Option Arr} {s x : V} {cs val : List V} {n : Nat} {Q : V × Hp → Prop} (h : Gro sz a0 m s cs n) (hx : ∃ c bx cp ro, x = .rsl c bx 0 0 1 ∧ hp.a bx = some ⟨0, sz, val, cp, ro⟩) (hold : ∀ b, b < m → hp.a b = a0 b) (hv : val.length = sz) (hc : ∀ c ∈ val, Go.Ab.cold c = true)
    (hb : (n + 1) * bytes ≤ maxRoom ∧ n + 1 ≤ maxRoom) (hi : ida < hp.m) (hm : m ≤ hp.m)
    (q : ∀ b v a', Gro sz a' hp.m (.rsl false b v 0 (n + 1)) (cs ++ val) (n + 1) → Q (.rsl false b v 0 (n + 1), ⟨hp.h, hp.n, a', hp.m⟩)) : opt (appendV sz bytes hp ida s x) Q := by
  obtain ⟨c, bx, cp, ro, rfl, ha⟩ := hx
  have hx' : Go.Ab.content none hp sz (.rsl c bx 0 0 1) = some (val, 1) := by
    simp [Go.Ab.content, ha, sub, hv, List.take_of_length_le]
  exact Gro.app (h.mono hold (Nat.le_refl m)) hx' (by decide) (by rw [hv]; omega) hc hb hi hm fun b v a' h' _ _ => q b v a' h'
end Go.Ab
namespace Go.Ab
theorem Gro.to {sz : Nat} {a : Nat → Option Arr} {m : Nat} {s : V} {cs cs' : List V} {n n' : Nat} (h : Gro sz a m s cs n) (e1 : cs = cs') (e2 : n = n') : Gro sz a m s cs' n' := e1 ▸ e2 ▸ h
end Go.Ab
namespace Go.Ab
theorem Gro.truncR {sz : Nat} {z : St} {m M k b v l : Nat} {cs : List V} {n : Nat} (h : Gro sz z.hp.a m (.rsl false b v 0 l) cs n) (hm : m ≤ M) : Gro sz (z.trunc k).hp.a M (.rsl false b v 0 l) cs n := Gro.trunc h hm
theorem Gro.truncN {sz : Nat} {z : St} {m M k : Nat} {cs : List V} {n : Nat} (h : Gro sz z.hp.a m (.sl true [] 0) cs n) (hm : m ≤ M) : Gro sz (z.trunc k).hp.a M (.sl true [] 0) cs n := Gro.trunc h hm
end Go.Ab
namespace Go.Ab
theorem opt_look1 {hp : Hp} {lim : Option (Nat × Nat)} {b v o ro : Nat} {cs : List V} {cap : Option Nat} {c : V} {Q : List V → Prop} (h : hp.a b = some ⟨v, 1, cs, cap, ro⟩) (hl : ∀ l, lim = some l → b < l.2) (hc : cs[o]? = some c) (q : Q [c]) : opt (look lim hp (.aref b v o) 1) Q := by
  have hlt := (List.getElem?_eq_some_iff.1 hc).1
  refine opt_look h hl (by omega) ?_
  have : sub cs o 1 = [c] := by
    unfold sub
    rw [List.drop_eq_getElem_cons hlt]
    simp [(List.getElem?_eq_some_iff.1 hc).2]
  rw [this]; exact q
def loopsOf : Code → List Code
  | .seq a b => loopsOf a ++ loopsOf b
  | .cond _ a b => loopsOf a ++ loopsOf b
  | .block _ c => loopsOf c
  | .scope c => loopsOf c
  | .loop c => c :: loopsOf c
  | _ => []
/-- a function's loop of this number -/
def lpN (f : Func) (k : Nat) : Code := match f.body with | some b => (match (loopsOf b)[k]? with | some c => c | none => .skip) | none => .skip
end Go.Ab
namespace Go.Ab
theorem Ev.ofF {C : Cfg} {f : Nat} {fn : Func} {body : Code} {xs : List V} {R : V → Prop} (h0 : C.ext f = none) (h1 : C.P.funcs[f]? = some fn) (h2 : fn.body = some body) (h3 : C.okF f = true)
    (h : xCode C body ⟨init xs, Hp.empty⟩ fun ex s' => match ex with | .exit _ => False | .normal => Fin C.P fn s' R | .ret => Fin C.P fn s' R) : ∃ r, C.Ev f xs r ∧ R r := by
  obtain ⟨K, ex, s', h4, h5⟩ := xCode_ok _ _ _ h
  have key : ∀ r' v hp1, (∀ i, ex ≠ .exit i) → resOf C.P fn s' = some r' → fz 6 s'.hp r' = some (v, hp1) → C.Ev f xs v := by
    intro r' v hp1 hne h6 h8
    refine ⟨K + 1, fun k hk => ?_⟩
    obtain ⟨k, rfl⟩ : ∃ m, k = m + 1 := ⟨k - 1, by omega⟩
    have := h4 k (by omega)
    have e : evalCode C.P ⟨dataCall C.ext (evalR C.P C.okF C.ext C.extR C.byref k), evalR C.P C.okF C.ext C.extR C.byref k, C.byref⟩ k body ⟨init xs, Hp.empty⟩ = some (ex, s') := this
    simp only [Cfg.call, dataCall, h0, Cfg.R, evalR, h1, h2, h3, Bool.true_eq_false, if_false, e]
    cases ex with
    | exit i => exact absurd rfl (hne i)
    | normal => simp only [h6, h8]
    | ret => simp only [h6, h8]
  cases ex with
  | exit i => exact h5.elim
  | normal => obtain ⟨r', h6, h7⟩ := opt_ex h5.out; obtain ⟨⟨v, hp1⟩, h8, h9⟩ := opt_ex h7; exact ⟨v, key r' v hp1 (by simp) h6 h8, h9⟩
  | ret => obtain ⟨r', h6, h7⟩ := opt_ex h5.out; obtain ⟨⟨v, hp1⟩, h8, h9⟩ := opt_ex h7; exact ⟨v, key r' v hp1 (by simp) h6 h8, h9⟩
end Go.Ab
namespace Go.Ab
theorem Fin.tmp {P : Program} {fn : Func} {s : St} {R : V → Prop} {i : Nat} {k : IntKind} {n : Int} (h : fn.results = #[.tmp i]) (a : s.t i = .int k n) (hR : R (.int k n)) : Fin P fn s R := by
  have e : resOf P fn s = some (.int k n) := by
    simp [resOf, h, resL, resOne, a]
  refine ⟨?_⟩
  rw [e]
  exact hR
theorem Fin.tmpB {P : Program} {fn : Func} {s : St} {R : V → Prop} {i : Nat} {b : Bool} (h : fn.results = #[.tmp i]) (a : s.t i = .bool b) (hR : R (.bool b)) : Fin P fn s R := by
  have e : resOf P fn s = some (.bool b) := by
    simp [resOf, h, resL, resOne, a]
  refine ⟨?_⟩
  rw [e]
  exact hR
end Go.Ab
end

section
set_option linter.unusedVariables false
set_option linter.unusedSimpArgs false
set_option linter.unusedSimpArgs false
set_option linter.unusedVariables false
namespace Go.Ab
/-- a call that writes what it is handed: some end, of which R holds -/
theorem EvR.ofE {C : Cfg} {f : Nat} {fn : Func} {body : Code} {xs : List V} {hp : Hp} {R : V → Hp → Prop} (h1 : C.P.funcs[f]? = some fn) (h2 : fn.body = some body) (h3 : C.okF f = true)
    (h : xCode C body ⟨init xs, hp⟩ fun ex s' => match ex with | .exit _ => False | .normal => opt (resOf C.P fn s') fun r' => R r' s'.hp | .ret => opt (resOf C.P fn s') fun r' => R r' s'.hp) : ∃ r hp', C.EvR f xs hp r hp' ∧ R r hp' := by
  obtain ⟨K, ex, s', h4, h5⟩ := xCode_ok _ _ _ h
  have key : ∀ r', (∀ i, ex ≠ .exit i) → resOf C.P fn s' = some r' → C.EvR f xs hp r' s'.hp := by
    intro r' hne h6
    refine ⟨K + 1, fun k hk => ?_⟩
    obtain ⟨k, rfl⟩ : ∃ m, k = m + 1 := ⟨k - 1, by omega⟩
    have := h4 k (by omega)
    simp only [Cfg.R, evalR, h1, h2, h3, Bool.true_eq_false, if_false]
    have e : evalCode C.P ⟨dataCall C.ext (evalR C.P C.okF C.ext C.extR C.byref k), evalR C.P C.okF C.ext C.extR C.byref k, C.byref⟩ k body ⟨init xs, hp⟩ = some (ex, s') := this
    rw [e]
    cases ex with
    | exit i => exact absurd rfl (hne i)
    | normal => simp only [h6]
    | ret => simp only [h6]
  cases ex with
  | exit i => exact h5.elim
  | normal => obtain ⟨r', h6, h7⟩ := opt_ex h5; exact ⟨r', _, key r' (by simp) h6, h7⟩
  | ret => obtain ⟨r', h6, h7⟩ := opt_ex h5; exact ⟨r', _, key r' (by simp) h6, h7⟩
theorem bnd {e : Int} {k n : Nat} (he : e = (k : Int)) (h : k < n) : 0 ≤ e ∧ e < (n : Int) := by omega
end Go.Ab
end

section
set_option linter.unusedVariables false
set_option linter.unusedSimpArgs false
set_option linter.unusedSimpArgs false
set_option linter.unusedVariables false
namespace Go.Ab
open Go.RowKit

/-- all that the soundness of a configuration wants -/
structure Sound (C : Cfg) (L : World → Prop) : Prop where
  env : ∀ k, EnvOK C.P L (C.env k)
  mixed : C.P.follows .mixedOrders = true
  low : ∀ w w', L w → Below w.heap.size w w' → L w'
theorem Sound.of {C : Cfg} {L : World → Prop} (hLB : ∀ w w', L w → Below w.heap.size w w' → L w') (hm : C.P.follows .mixedOrders = true) (hok : OKF C.P C.okF) (hext : EXT C.P L C.ext) (hextR : EXTR C.P L C.okF C.extR) : Sound C L := by
  refine ⟨fun k => ⟨fun f as r h => ⟨?_, evalCall_ok hLB hm hok hext hextR h⟩, fun f as hp r hp' h => evalR_ok hLB hm hok hext hextR k f as hp r hp' h⟩, hm, hLB⟩
  have h' : dataCall C.ext (evalR C.P C.okF C.ext C.extR C.byref k) f as = some r := h
  simp only [dataCall] at h'
  cases he : C.ext f with
  | some g => rw [he] at h'; exact (hext f g as r he h').1
  | none =>
    rw [he] at h'
    simp only at h'
    cases hR : evalR C.P C.okF C.ext C.extR C.byref k f as Hp.empty with
    | none => rw [hR] at h'; cases h'
    | some p => obtain ⟨r0, hp1⟩ := p; exact (evalR_ok hLB hm hok hext hextR k f as Hp.empty r0 hp1 hR).1

def Post (base : Nat) (G0 : Gh) (w0 : World) (hp0 : Hp) (N : Nat) (Q : Ex → St → Prop) (X : Value → Prop) (e : Exit) (a : Act) (w : World) : Prop :=
  (∃ ex s G, e = toExit ex ∧ Q ex s ∧ CInv [] base G0 w0 hp0 N s a w G) ∨ ∃ x, e = .panic [{ v := x, recovered := false }] ∧ X x ∧ a.defers = [] ∧ Below base w0 w
/-- the code from this state on ends in one of the states of Q, or panics with one of the values of X -/
structure SW (C : Cfg) (L : World → Prop) (M : Nat) (c : Code) (s : St) (Q : Ex → St → Prop) (X : Value → Prop) : Prop where
  out : ∀ (base : Nat) (G0 : Gh) (w0 : World) (hp0 : Hp) (N : Nat) (a : Act) (w : World) (G : Gh), M ≤ N → (∀ w', Below base w0 w' → L w') → CInv [] base G0 w0 hp0 N s a w G → c.wp C.P (Post base G0 w0 hp0 N Q X) a w
section
variable {C : Cfg} {L : World → Prop} {M : Nat} {s : St} {Q : Ex → St → Prop} {X : Value → Prop}
theorem SW.mono {c : Code} {Q' : Ex → St → Prop} (h : SW C L M c s Q X) (hq : ∀ ex s, Q ex s → Q' ex s) : SW C L M c s Q' X :=
  ⟨fun base G0 w0 hp0 N a w G hM hL hC => wp_mono (h.out base G0 w0 hp0 N a w G hM hL hC) fun e a w hp => by
    rcases hp with ⟨ex, s, G, h1, h2, h3⟩ | hp
    · exact .inl ⟨ex, s, G, h1, hq _ _ h2, h3⟩
    · exact .inr hp⟩
theorem SW.of_x {c : Code} (hS : Sound C L) (hk : okCode M c = true) (h : xCode C c s Q) : SW C L M c s Q X := by
  refine ⟨fun base G0 w0 hp0 N a w G hM hL hC => ?_⟩
  obtain ⟨K, ex, s', h1, h2⟩ := xCode_ok _ _ _ h
  refine wp_mono (code_ok (hS.env K) hS.mixed hM hL K c s a w G ex s' hk hC (h1 K (Nat.le_refl _))) ?_
  rintro e a' w' ⟨rfl, G', h'⟩
  exact .inl ⟨ex, s', G', rfl, h2, h'⟩
theorem SW.seq {x y : Code} (h : SW C L M x s (fun ex s' => match ex with | .normal => SW C L M y s' Q X | .exit i => Q (.exit i) s' | .ret => Q .ret s') X) : SW C L M (.seq x y) s Q X := by
  refine ⟨fun base G0 w0 hp0 N a w G hM hL hC => wp_seq (wp_mono (h.out base G0 w0 hp0 N a w G hM hL hC) ?_)⟩
  intro e a' w' hp
  rcases hp with ⟨ex, s', G', rfl, h2, h3⟩ | ⟨v, rfl, hp⟩
  · cases ex with
    | normal => exact h2.out base G0 w0 hp0 N a' w' G' hM hL h3
    | exit i => exact .inl ⟨_, s', G', rfl, h2, h3⟩
    | ret => exact .inl ⟨_, s', G', rfl, h2, h3⟩
  · exact .inr ⟨v, rfl, hp⟩
theorem SW.cond {x y : Code} {c : Operand} {t : Bool} (hc : val s.t c = .bool t) (h1 : t = true → SW C L M x s Q X) (h2 : t = false → SW C L M y s Q X) : SW C L M (.cond c x y) s Q X := by
  refine ⟨fun base G0 w0 hp0 N a w G hM hL hC => ?_⟩
  have hv := eval_ok hC.t c
  rw [hc] at hv
  simp only [VR] at hv
  cases t with
  | true => exact wp_cond_true hv ((h1 rfl).out base G0 w0 hp0 N a w G hM hL hC)
  | false => exact wp_cond_false hv ((h2 rfl).out base G0 w0 hp0 N a w G hM hL hC)
theorem SW.block {id : Nat} {c : Code} (h : SW C L M c s (fun ex s' => match ex with | .exit i => (match Nat.beq i id with | true => Q .normal s' | false => Q (.exit i) s') | .normal => Q .normal s' | .ret => Q .ret s') X) : SW C L M (.block id c) s Q X := by
  refine ⟨fun base G0 w0 hp0 N a w G hM hL hC => wp_block (wp_mono (h.out base G0 w0 hp0 N a w G hM hL hC) ?_)⟩
  intro e a' w' hp
  rcases hp with ⟨ex, s', G', rfl, h2, h3⟩ | ⟨v, rfl, hp⟩
  · cases ex with
    | normal => exact .inl ⟨_, s', G', rfl, h2, h3⟩
    | ret => exact .inl ⟨_, s', G', rfl, h2, h3⟩
    | exit i =>
      simp only [toExit, Exit.inBlock]
      simp only at h2
      by_cases hi : i = id
      · rw [if_pos hi]
        rw [show Nat.beq i id = true from by simp [hi]] at h2
        exact .inl ⟨.normal, s', G', rfl, h2, h3⟩
      · rw [if_neg hi]
        rw [show Nat.beq i id = false from by cases hb : Nat.beq i id; rfl; exact absurd (Nat.eq_of_beq_eq_true hb) hi] at h2
        exact .inl ⟨.exit i, s', G', rfl, h2, h3⟩
  · exact .inr ⟨v, rfl, hp⟩

/-! ### one operation that the evaluator lacks -/
structure OpW (C : Cfg) (L : World → Prop) (ops : Array Oper) (i : Nat) (o : Oper) (n0 m0 : Nat) (s : St) (Q : St → Prop) (X : Value → Prop) : Prop where
  out : ∀ (base : Nat) (G0 : Gh) (w0 : World) (hp0 : Hp) (N : Nat) (a : Act) (w : World) (G : Gh) (U : Nat → Prop) (K : Act → World → Prop) (E : Exit → Act → World → Prop), (∀ w', Below base w0 w' → L w') → RInv [] U n0 m0 base G0 w0 hp0 N s a w G → U i → ops[i]? = some o → (∀ d, o.dst = some d → d < N) →
    (∀ s' a' w' G', Q s' → RInv [] (fun j => U j ∧ j ≠ i) n0 m0 base G0 w0 hp0 N s' a' w' G' → K a' w') → (∀ x a' w', X x → a'.defers = [] → Below base w0 w' → E (.panic [{ v := x, recovered := false }]) a' w') → wpOp C.P ops E i K a w

theorem ops_pre {P : Program} {E : Env} (hE : EnvOK P L E) {ops : Array Oper} {Q : Exit → Act → World → Prop} {n0 m0 : Nat} {base : Nat} {G0 : Gh} {w0 : World} {hp0 : Hp} {N : Nat} (hL : ∀ w', Below base w0 w' → L w') (hD : dstB N ops = true) {s' : St} {rest : List Nat} :
    ∀ (os : List Oper) (i : Nat) (s : St) (a : Act) (w : World) (G : Gh) (U : Nat → Prop), (∀ j, j < os.length → os[j]? = ops[i + j]?) → (∀ j, i ≤ j → j < i + os.length → U j) → RInv [] U n0 m0 base G0 w0 hp0 N s a w G → stepOps P E ops.toList false n0 m0 i os s = some s' →
      (∀ a' w' G', RInv [] (fun j => U j ∧ ¬ (i ≤ j ∧ j < i + os.length)) n0 m0 base G0 w0 hp0 N s' a' w' G' → wpOps P ops Q rest a' w') → wpOps P ops Q (List.range' i os.length ++ rest) a w
  | [], i, s, a, w, G, U, _, _, R, h, hQ => by
    cases h
    simp only [List.length_nil, List.range'_zero, List.nil_append]
    exact hQ a w G (R.less fun j hj => hj.1)
  | o :: os, i, s, a, w, G, U, hj, hU, R, h, hQ => by
    have hi : ops[i]? = some o := by have := hj 0 (by simp); simpa using this.symm
    simp only [stepOps] at h
    cases h1 : stepOp P E ops.toList false n0 m0 i o s with
    | none => rw [h1] at h; cases h
    | some s1 =>
      rw [h1] at h
      simp only [List.length_cons, List.range'_succ, List.cons_append]
      rw [wpOps_cons]
      refine stepOp_ok hE hL R (i := i) (hU i (Nat.le_refl _) (by simp)) hi (dstB_spec hD hi) h1 fun a' w' G' R' => ?_
      refine ops_pre hE hL hD os (i + 1) s1 a' w' G' (fun j => U j ∧ j ≠ i) (fun j hlt => by have := hj (j + 1) (by simp; omega); simpa [Nat.add_assoc, Nat.add_comm 1 j] using this) (fun j h1 h2 => ⟨hU j (by omega) (by simp only [List.length_cons]; omega), by omega⟩) R' h ?_
      intro a2 w2 G2 R2
      refine hQ a2 w2 G2 (R2.less ?_)
      rintro j ⟨h1, h2⟩
      simp only [List.length_cons] at h2
      exact ⟨⟨h1, by omega⟩, by omega⟩

theorem dstB_le {N : Nat} (hMN : M ≤ N) {ops : Array Oper} (h : dstB M ops = true) : dstB N ops = true := by
  unfold dstB at h ⊢
  rw [List.all_eq_true] at h ⊢
  intro o ho
  have := h o ho
  cases hd : o.dst with
  | none => rfl
  | some d => simp only [hd, decide_eq_true_eq] at this ⊢; exact Nat.lt_of_lt_of_le this hMN
/-- a region in the text's order, of which one operation is told otherwise -/
theorem SW.region {id : Nat} {ops : Array Oper} (hS : Sound C L) (i : Nat) {o : Oper} (hi : ops[i]? = some o) (hD : dstB M ops = true)
    (h : xOps C ops.toList false s.hp.n s.hp.m 0 (ops.toList.take i) (s.bump ops.toList.length) fun s1 => OpW C L ops i o s.hp.n s.hp.m s1 (fun s2 => xOps C ops.toList false s.hp.n s.hp.m (i + 1) (ops.toList.drop (i + 1)) s2 fun s3 => Q .normal s3) X) :
    SW C L M (.region id ops false) s Q X := by
  refine ⟨fun base G0 w0 hp0 N a w G hM hL hC => wp_region ?_⟩
  have hD' := dstB_le hM hD
  have hlt : i < ops.size := by
    rcases Nat.lt_or_ge i ops.size with h' | h'
    · exact h'
    · rw [Array.getElem?_eq_none h'] at hi; cases hi
  have hlen : ops.toList.length = ops.size := by simp
  obtain ⟨K1, s1, h1, h2⟩ := xOps_ok _ _ _ h
  have hbump := hC.inv.bump ops.toList.length
  obtain ⟨k1, k2⟩ := hbump.elder (Elder.refl w)
  have R : RInv [] (fun j => j < ops.size) s.hp.n s.hp.m base G0 w0 hp0 N (s.bump ops.toList.length) a w G :=
    ⟨k1, hC.t.mono k2, hC.d, hC.N, hC.inv.n, hC.inv.m, fun j hj => ⟨by simp only [St.bump]; omega, hC.inv.fb _ (by omega)⟩, fun j hj => ⟨by simp only [St.bump]; omega, hC.inv.fa _ (by omega)⟩⟩
  have htl : (ops.toList.take i).length = i := by simp; omega
  have hdl : (ops.toList.drop (i + 1)).length = ops.size - (i + 1) := by simp
  rw [range_split hlt, List.range_eq_range']
  have e1 : List.range' 0 i = List.range' 0 (ops.toList.take i).length := by rw [htl]
  rw [e1]
  refine ops_pre (hS.env K1) hL hD' (ops.toList.take i) 0 _ a w G _ (fun j hj => ?_) (fun j _ hj => ?_) R (h1 K1 (Nat.le_refl _)) ?_
  · rw [htl] at hj
    rw [List.getElem?_take, if_pos hj, Nat.zero_add]
    simp
  · omega
  intro a' w' G' R'
  rw [wpOps_cons]
  refine h2.out base G0 w0 hp0 N a' w' G' _ _ _ hL R' (by rw [htl]; exact ⟨hlt, by omega⟩) hi (dstB_spec hD' hi) ?_ ?_
  · intro s2 a2 w2 G2 q2 R2
    obtain ⟨K2, s3, h3, h4⟩ := xOps_ok _ _ _ q2
    have e2 : List.range' (i + 1) (ops.size - (i + 1)) = List.range' (i + 1) (ops.toList.drop (i + 1)).length ++ [] := by rw [hdl, List.append_nil]
    rw [e2]
    refine ops_pre (hS.env K2) hL hD' (ops.toList.drop (i + 1)) (i + 1) _ a2 w2 G2 _ (fun j hj => ?_) (fun j hj1 hj2 => ?_) R2 (h3 K2 (Nat.le_refl _)) ?_
    · rw [List.getElem?_drop]; simp
    · refine ⟨⟨by omega, ?_⟩, by omega⟩
      rw [htl]; omega
    · intro a3 w3 G3 R3
      simp only [wpOps]
      exact .inl ⟨.normal, s3, G3, rfl, h4, R3.inv, R3.t, R3.d, R3.N⟩
  · intro x a2 w2 hx hd hb
    exact .inr ⟨x, rfl, hx, hd, hb⟩
end

/-! ### panics -/
/-- a call upon data that panics with this value -/
def PanC (P : Program) (L : World → Prop) (f : Nat) (as : List V) (x : Value) : Prop :=
  ∀ (S : Nat → Nat → Prop) (w : World) (xs : Array Value), L w → (∀ r o, S r o → r < w.heap.size) → VRs (stab S) w as xs.toList →
    Calls P f xs w fun e w' => e = .panicked [{ v := x, recovered := false }] ∧ Below w.heap.size w w'
/-- the function at hand, called so, panics with one of these values -/
structure PanAt (C : Cfg) (L : World → Prop) (o : Oper) (s : St) (X : Value → Prop) : Prop where
  out : ∃ f args at_ kf cap as x, o.op = .call ⟨.value f, args, at_⟩ ∧ o.guard = none ∧ val s.t f = .fn kf cap ∧ fzPL (fzP 6) (args.toList.map (val s.t) ++ cap) = some as ∧ Goes C.P kf ∧ X x ∧ PanC C.P L kf as x
theorem wanted_none {ops : Array Oper} {o : Oper} (h : o.guard = none) (tmps : Array Value) : Region.wanted o (yielded ops tmps) = true := by simp [Region.wanted, h]
theorem pan_op {D : List Deferred} {C : Cfg} {L : World → Prop} {X : Value → Prop} {o : Oper} {s : St} (h : PanAt C L o s X) {ops : Array Oper} {i : Nat} {n0 m0 : Nat} {base : Nat} {G0 : Gh} {w0 : World} {hp0 : Hp} {N : Nat} {s1 : St} {a : Act} {w : World} {G : Gh} {U : Nat → Prop} {K : Act → World → Prop} {E : Exit → Act → World → Prop}
    (hL : ∀ w', Below base w0 w' → L w') (R : RInv D U n0 m0 base G0 w0 hp0 N s1 a w G) (hi : ops[i]? = some o) (hv : ∀ x ∈ o.op.operands, val s1.t x = val s.t x)
    (hX : ∀ x a' w', X x → a'.defers = D → Below base w0 w' → E (.panic [{ v := x, recovered := false }]) a' w') : wpOp C.P ops E i K a w := by
  obtain ⟨f, args, at_, kf, cap, as, x, h1, h2, h3, h4, h5, h6, h7⟩ := h.out
  refine wpOp_at hi (wanted_none h2 _) ?_
  have hf : val s1.t f = .fn kf cap := by rw [hv f (by rw [h1]; simp [Op.operands, Call.operands]), h3]
  have hargs : args.toList.map (val s1.t) = args.toList.map (val s.t) := List.map_congr_left fun y hy => hv y (by rw [h1]; simp [Op.operands, Call.operands]; right; simpa using hy)
  have hev : ∀ y, VR G w (val s1.t y) (a.eval y) := eval_ok R.t
  have hfx := hev f
  rw [hf] at hfx
  obtain ⟨caps, e1, e2⟩ := hfx
  have hvs : VRs G w (args.toList.map (val s1.t) ++ cap) (args.map a.eval ++ caps).toList := by
    rw [Array.toList_append, Array.toList_map]
    exact (VRs.maps hev _).append e2
  rw [hargs] at hvs
  have hz := fzPL_ok (fun v v' x => fzP_ok 6 v v' x) h4 hvs
  unfold Oper.wp
  rw [run_call h1 e1 h5 w, Oper.upon_enter]
  obtain ⟨ow, hs⟩ := R.inv.sim
  refine (h7 G.S w _ (hL w R.inv.below) hs.S hz).mono ?_
  rintro e w' ⟨rfl, hb⟩
  exact hX x a w' h6 R.d (R.inv.below.trans (hb.mono R.inv.lb))
theorem OpW.pan {C : Cfg} {L : World → Prop} {X : Value → Prop} {Q : St → Prop} {ops : Array Oper} {i : Nat} {o : Oper} {n0 m0 : Nat} {s : St} (h : PanAt C L o s X) : OpW C L ops i o n0 m0 s Q X :=
  ⟨fun base G0 w0 hp0 N a w G U K E hL R hU hi hd hK hX => pan_op h hL R hi (fun _ _ => rfl) hX⟩
/-- the panic itself -/
theorem OpW.raise {C : Cfg} {L : World → Prop} {X : Value → Prop} {Q : St → Prop} {ops : Array Oper} {i : Nat} {o : Oper} {n0 m0 : Nat} {s : St} {x : Operand} {t : Nat} {k : IntKind} {n : Int} (ho : o.op = .panic x) (hg : o.guard = none) (hx : val s.t x = .ifc t [.agg [.int k n]]) (hX : X (.iface t (.agg #[.int k n]))) : OpW C L ops i o n0 m0 s Q X := by
  refine ⟨fun base G0 w0 hp0 N a w G U K E hL R hU hi hd hK hE => wpOp_at hi (wanted_none hg _) ?_⟩
  have hv := eval_ok R.t x
  rw [hx] at hv
  obtain ⟨y, e1, z, zs, e2, h3, h4⟩ := hv
  simp only [VRs] at h4
  subst h4
  cases e2
  obtain ⟨arr, rfl, _, u, us, e3, e4, e5⟩ := h3
  simp only [VRs] at e5
  subst e5
  simp only [VR] at e4
  subst e4
  have harr : arr = #[.int k n] := by cases arr; simp_all
  subst harr
  obtain ⟨dst, op, ty, pos, after, guard⟩ := o
  simp only at ho
  subst ho
  have hrun : (execOp a.eval { dst := dst, op := .panic x, type := ty, pos := pos, after := after, guard := guard }).run C.P w = .halt (.panic (.iface t (.agg #[.int k n]))) w := by
    simp [execOp, Instr.panic, e1, goPanic, Sem.run]
  unfold Oper.wp
  rw [hrun]
  exact hE _ a w hX R.d R.inv.below
end Go.Ab
end

section
set_option linter.unusedVariables false
set_option linter.unusedSimpArgs false
set_option linter.unusedSimpArgs false
set_option linter.unusedVariables false
namespace Go.Ab
open Go.RowKit

/-! ### a panic in a region of any order -/
def freeP (ops : Array Oper) (i0 : Nat) (j : Nat) : Bool := !(Nat.beq j i0) && !ancB ops ops.size j i0
def freeL (ops : Array Oper) (i0 : Nat) : List Nat := (List.range ops.size).filter (freeP ops i0)
def unlF (ops : Array Oper) (i0 : Nat) (listed : Array Bool) : List Nat := (List.range ops.size).filter fun j => !listed.getD j true && freeP ops i0 j
theorem filt_split {n k : Nat} {p q : Nat → Bool} (hk : k < n) (hp : p k = true) (hq : q k = false) (he : ∀ j, j ≠ k → q j = p j) :
    ∃ l1 l2, (List.range n).filter p = l1 ++ k :: l2 ∧ (List.range n).filter q = l1 ++ l2 ∧ ∀ j ∈ l1, j < k ∧ p j = true := by
  refine ⟨(List.range k).filter p, (List.range' (k + 1) (n - (k + 1))).filter p, ?_, ?_, ?_⟩
  · rw [range_split hk, List.filter_append, List.filter_cons_of_pos hp]
  · rw [range_split hk, List.filter_append, List.filter_cons_of_neg (by rw [hq]; simp)]
    congr 1
    · exact List.filter_congr fun j hj => he j (by simp at hj; omega)
    · exact List.filter_congr fun j hj => he j (by simp only [List.mem_range'_1] at hj; omega)
  · intro j hj
    simp only [List.mem_filter, List.mem_range] at hj
    exact hj
theorem mem_unl {n : Nat} {listed : Array Bool} {j : Nat} : j ∈ unl n listed ↔ j < n ∧ listed.getD j true = false := by
  unfold unl
  simp only [List.mem_filter, List.mem_range, Bool.not_eq_true']
theorem ready_some {ops : Array Oper} (hR : rokB ops = true) {listed : Array Bool} (hsz : listed.size = ops.size) {i0 : Nat} (h0 : i0 < ops.size) (hu : listed.getD i0 true = false) : Region.ready .any ops listed ≠ [] := by
  intro hr
  obtain ⟨i, hi, hmin⟩ : ∃ i, (i < ops.size ∧ listed.getD i true = false) ∧ ∀ j, j < i → listed.getD j true = true := by
    suffices h : ∀ n, (∃ i, i < n ∧ i < ops.size ∧ listed.getD i true = false) → ∃ i, (i < ops.size ∧ listed.getD i true = false) ∧ ∀ j, j < i → listed.getD j true = true from h (i0 + 1) ⟨i0, by omega, h0, hu⟩
    intro n
    induction n with
    | zero => rintro ⟨i, h, _⟩; omega
    | succ n ih =>
      rintro ⟨i, h1, h2, h3⟩
      by_cases hex : ∃ j, j < n ∧ j < ops.size ∧ listed.getD j true = false
      · exact ih hex
      · refine ⟨i, ⟨h2, h3⟩, fun j hj => ?_⟩
        cases hq : listed.getD j true with
        | true => rfl
        | false => exact absurd ⟨j, by omega, by omega, hq⟩ hex
  have ho : ops[i]? = some ops[i] := Array.getElem?_eq_getElem hi.1
  have hrd : i ∈ Region.ready .any ops listed := mem_ready.2 ⟨hi.2, _, ho, fun e he hb => by
    have hlt := (rok_spec hR ho).1 e he hb
    have := hmin e.on hlt
    have hes : e.on < listed.size := by omega
    simp [hes] at this ⊢; exact this⟩
  rw [hr] at hrd; cases hrd
theorem late_apart {ops : Array Oper} {j i : Nat} {x y : Oper} (h : commB ops j i x y = true ∨ lateS ops j i x y = true) : x.apart ops y = true := by
  rcases h with h | h
  · simp only [commB, Bool.and_eq_true] at h; exact h.1.1
  · simp only [lateS, Bool.or_eq_true] at h
    rcases h with h | h | h
    · unfold late1 at h
      split at h
      · simp only [Bool.and_eq_true] at h; exact h.1.1
      · cases h
    · unfold lateM at h
      split at h
      · simp only [Bool.and_eq_true] at h; exact h.1.2
      · split at h
        · simp only [Bool.and_eq_true] at h; exact h.1.2
        · cases h
    · unfold lateL at h
      split at h
      · simp only [Bool.and_eq_true] at h; exact h.1.1
      · split at h
        · simp only [Bool.and_eq_true] at h; exact h.1.1
        · cases h
section
variable {C : Cfg} {L : World → Prop} {X : Value → Prop}
theorem any_pan {k0 : Nat} (hS : Sound C L) {ops : Array Oper} {Q : Exit → Act → World → Prop} {n0 m0 : Nat} {base : Nat} {G0 : Gh} {w0 : World} {hp0 : Hp} {N : Nat} (hL : ∀ w', Below base w0 w' → L w') (hD : dstB N ops = true) (hR : rokB ops = true) {s' : St} (hLt : lateR ops.toList s'.t true = true)
    {i0 : Nat} {o0 : Oper} (h0 : ops[i0]? = some o0) (hP : PanAt C L o0 s' X)
    (hQ : ∀ x a' w', X x → a'.defers = [] → Below base w0 w' → Q (.panic [{ v := x, recovered := false }]) a' w') :
    ∀ (fuel : Nat) (listed : Array Bool) (s : St) (a : Act) (w : World) (G : Gh), listed.size = ops.size → ClosedL ops listed → listed.getD i0 true = false → fuel = (unl ops.size listed).length → RInv [] (fun j => j < ops.size ∧ listed.getD j true = false) n0 m0 base G0 w0 hp0 N s a w G →
      stepL C.P (C.env k0) ops n0 m0 (unlF ops i0 listed) s = some s' → wpAny C.P .any ops Q fuel listed a w := by
  have hlt0 : i0 < ops.size := by
    rcases Nat.lt_or_ge i0 ops.size with h' | h'
    · exact h'
    · rw [Array.getElem?_eq_none h'] at h0; cases h0
  intro fuel
  induction fuel with
  | zero =>
    intro listed s a w G hsz hcl hun hf R h
    have hm : i0 ∈ unl ops.size listed := mem_unl.2 ⟨hlt0, hun⟩
    rw [List.eq_nil_of_length_eq_zero hf.symm] at hm; cases hm
  | succ fuel ih =>
    intro listed s a w G hsz hcl hun hf R h
    refine ⟨fun hr => absurd hr (ready_some hR hsz hlt0 hun), fun i hi => ?_⟩
    obtain ⟨h1, o, ho, hp⟩ := mem_ready.1 hi
    have hlt : i < ops.size := by
      rcases Nat.lt_or_ge i ops.size with h' | h'
      · exact h'
      · rw [Array.getElem?_eq_none h'] at ho; cases ho
    have hancL : ∀ j, ancB ops ops.size i j = true → listed.getD j false = true := fun j h2 => anc_listed hcl ops.size i j (fun o' ho' e he hb => by rw [ho] at ho'; cases ho'; exact hp e he hb) h2
    by_cases hii : i = i0
    · subst hii
      rw [h0] at ho; cases ho
      refine pan_op hP hL R h0 (fun x hx => ?_) hQ
      cases x with
      | tmp d =>
        have := stepL_keep (d := d) _ s s' (fun k hk ok hok => ?_) h
        · simp only [val]; exact this.symm
        unfold unlF at hk
        simp only [List.mem_filter, List.mem_range, Bool.and_eq_true, Bool.not_eq_true', freeP] at hk
        obtain ⟨hkn, hku, hki, hka⟩ := hk
        intro hd
        have hne : k ≠ i := by rintro rfl; simp at hki
        rcases Nat.lt_or_gt_of_ne hne with hki' | hki'
        · rcases (rok_spec hR h0).2 k hki' with h2 | ⟨x, hx', hc⟩
          · have := hancL k h2
            rw [getD_ft hku] at this; cases this
          · rw [hok] at hx'; cases hx'
            exact looks_op ((Oper.apart_spec (late_apart hc)).1 d hd) (.tmp d) hx rfl
        · rcases (rok_spec hR hok).2 i hki' with h2 | ⟨x, hx', hc⟩
          · rw [h2] at hka; cases hka
          · rw [h0] at hx'; cases hx'
            exact looks_op ((Oper.apart_spec (late_apart hc)).2.2 d hd) (.tmp d) hx rfl
      | _ => rfl
    · have hfree : freeP ops i0 i = true := by
        unfold freeP
        have e1 : Nat.beq i i0 = false := by cases hb : Nat.beq i i0; rfl; exact absurd (Nat.eq_of_beq_eq_true hb) hii
        rw [e1]
        cases hb : ancB ops ops.size i i0 with
        | false => rfl
        | true =>
          have := hancL i0 hb
          rw [getD_ft hun] at this; cases this
      obtain ⟨l1, l2, e1, e2, e3⟩ := filt_split (n := ops.size) (k := i) (p := fun j => !listed.getD j true && freeP ops i0 j) (q := fun j => !(listed.setIfInBounds i true).getD j true && freeP ops i0 j) hlt (by simp only [h1, hfree, Bool.not_false, Bool.and_self]) (by simp only [getD_set_at (show i < listed.size by omega)]; rfl) (fun j hj => by simp only [getD_set_off (Ne.symm hj)])
      unfold unlF at h
      rw [e1] at h
      have hsorted : (l1 ++ i :: l2).Pairwise (· < ·) := by
        rw [← e1]
        exact List.Pairwise.filter _ (by rw [List.range_eq_range']; exact List.pairwise_lt_range')
      have hun1 : ∀ j ∈ l1, listed.getD j true = false := fun j hj => by
        have := (e3 j hj).2
        simp only [Bool.and_eq_true, Bool.not_eq_true'] at this
        exact this.1
      have hanc : ∀ j ∈ l1, ancB ops ops.size i j = true → False := fun j hj h2 => by
        have := hancL j h2
        rw [getD_ft (hun1 j hj)] at this; cases this
      obtain ⟨s1, g1, g2⟩ := stepL_front ho l1 l2 s s' hsorted (fun j hj => ⟨by have := (e3 j hj).1; omega, fun oj hoj => by
        rcases (rok_spec hR ho).2 j (e3 j hj).1 with h2 | ⟨x, hx, hc | hc⟩
        · exact (hanc j hj h2).elim
        · rw [hoj] at hx; cases hx; exact .inl hc
        · rw [hoj] at hx; cases hx
          rcases late_of hLt (fun i y hy => (rok_spec hR hy).1) (e3 j hj).1 hoj ho hc with h2 | h2
          · exact (hanc j hj h2).elim
          · exact .inr h2⟩) (fun j hj oj hoj => fr_of (fun i y hy => (rok_spec hR hy).1) (e3 j hj).1 hoj ho (hanc j hj)) h
      obtain ⟨m1, m2, f1, f2, f3⟩ := unl_split hsz hlt h1
      refine stepOp_ok (hS.env k0) hL R (i := i) ⟨hlt, h1⟩ ho (dstB_spec hD ho) g1 fun a' w' G' R' => ?_
      refine ih (listed.setIfInBounds i true) s1 a' w' G' (by simp [hsz]) ?_ ?_ ?_ (R'.less ?_) (by unfold unlF; rw [e2]; exact g2)
      · intro k ok hk hl e he hb
        by_cases hki : k = i
        · subst hki
          rw [ho] at hk; cases hk
          have := hp e he hb
          by_cases hee : k = e.on
          · rw [← hee, getD_set_at (by omega)]
          · rw [getD_set_off hee]; exact this
        · rw [getD_set_off (Ne.symm hki)] at hl
          have := hcl k ok hk hl e he hb
          by_cases hee : i = e.on
          · rw [← hee, getD_set_at (by omega)]
          · rw [getD_set_off hee]; exact this
      · rw [getD_set_off hii]; exact hun
      · rw [f2]; rw [f1] at hf; simp at hf ⊢; omega
      · rintro j ⟨hj, hu⟩
        by_cases hji : j = i
        · subst hji; rw [getD_set_at (by omega)] at hu; cases hu
        · rw [getD_set_off (Ne.symm hji)] at hu; exact ⟨⟨hj, hu⟩, hji⟩

/-- operations one by one, in the order of a list of their places -/
def xL (C : Cfg) (ops : Array Oper) (n0 m0 : Nat) : List Nat → St → (St → Prop) → Prop
  | [], s, Q => Q s
  | j :: l, s, Q => match ops[j]? with
    | some o => match o.guard with
      | none => xOp C ops.toList true n0 m0 j o s fun s' => xL C ops n0 m0 l s' Q
      | some _ => False
    | none => False
theorem xL_ok {ops : Array Oper} {n0 m0 : Nat} {Q : St → Prop} : ∀ (l : List Nat) (s : St), xL C ops n0 m0 l s Q → ∃ K s', (∀ k, K ≤ k → stepL C.P (C.env k) ops n0 m0 l s = some s') ∧ Q s'
  | [], s, h => ⟨0, s, fun _ _ => rfl, h⟩
  | j :: l, s, h => by
    simp only [xL] at h
    cases ho : ops[j]? with
    | none => rw [ho] at h; exact h.elim
    | some o =>
      rw [ho] at h
      simp only at h
      cases hg : o.guard with
      | some g => rw [hg] at h; exact h.elim
      | none =>
        rw [hg] at h
        obtain ⟨K1, s1, h1, h2⟩ := xOp_ok (by simp [wantedV, hg]) h
        obtain ⟨K2, s2, h3, h4⟩ := xL_ok l s1 h2
        exact ⟨max K1 K2, s2, fun k hk => by simp only [stepL, ho, h1 k (by omega)]; exact h3 k (by omega), h4⟩
variable {M : Nat} {s : St} {Q : Ex → St → Prop}
theorem SW.regionP {id : Nat} {ops : Array Oper} (hS : Sound C L) (i : Nat) {o : Oper} {l : List Nat} (hi : ops[i]? = some o) (hD : dstB M ops = true) (hR : rokB ops = true) (hl : freeL ops i = l)
    (h : xL C ops s.hp.n s.hp.m l (s.bump ops.toList.length) fun s1 => lateR ops.toList s1.t true = true ∧ PanAt C L o s1 X) : SW C L M (.region id ops true) s Q X := by
  refine ⟨fun base G0 w0 hp0 N a w G hM hL hC => ?_⟩
  obtain ⟨K, s1, h1, h2, h3⟩ := xL_ok _ _ h
  have hbump := hC.inv.bump ops.toList.length
  have hlen : ops.toList.length = ops.size := by simp
  obtain ⟨k1, k2⟩ := hbump.elder (Elder.drew w)
  have R : RInv [] (fun j => j < ops.size ∧ (Array.replicate ops.size false).getD j true = false) s.hp.n s.hp.m base G0 w0 hp0 N (s.bump ops.toList.length) a { w with drawn := w.drawn + 1 } G :=
    ⟨k1, hC.t.mono k2, hC.d, hC.N, hC.inv.n, hC.inv.m, fun j hj => ⟨by have := hj.1; simp only [St.bump]; omega, hC.inv.fb _ (by omega)⟩, fun j hj => ⟨by have := hj.1; simp only [St.bump]; omega, hC.inv.fa _ (by omega)⟩⟩
  have hlt : i < ops.size := by
    rcases Nat.lt_or_ge i ops.size with h' | h'
    · exact h'
    · rw [Array.getElem?_eq_none h'] at hi; cases hi
  have hrep : ∀ j, j < ops.size → (Array.replicate ops.size false).getD j true = false := fun j hj => by simp [hj]
  have hun : (unl ops.size (Array.replicate ops.size false)).length = ops.size := by
    unfold unl
    rw [List.filter_eq_self.2, List.length_range]
    intro j hj
    simp only [List.mem_range] at hj
    simp [hj]
  have hf : unlF ops i (Array.replicate ops.size false) = l := by
    rw [← hl]
    unfold unlF freeL
    refine List.filter_congr fun j hj => ?_
    simp only [List.mem_range] at hj
    simp [hj]
  refine wp_region_any hS.mixed (any_pan (k0 := K) hS hL (dstB_le hM hD) hR h2 hi h3 (fun x a' w' hx hd hb => .inr ⟨x, rfl, hx, hd, hb⟩) ops.size _ _ a _ G (by simp) ?_ (hrep i hlt) hun.symm R (by rw [hf]; exact h1 K (Nat.le_refl _)))
  intro k o hk hl
  exfalso
  rcases Nat.lt_or_ge k ops.size with h' | h'
  · simp [h'] at hl
  · simp [h'] at hl

/-! ### a function of which this is known -/
theorem PanC.of_SW {f : Nat} {fn : Func} {body : Code} {as : List V} {x : Value} (hS : Sound C L) (h1 : C.P.funcs[f]? = some fn) (h2 : fn.body = some body) (h : SW C L fn.ntmps body ⟨init as, Hp.empty⟩ (fun _ _ => False) (fun y => y = x)) : PanC C.P L f as x := by
  intro S w xs hLw hSz hxs
  refine calls_of_wp h1 h2 ?_
  have hC : CInv [] w.heap.size (stab S) w Hp.empty (xs ++ Array.replicate (fn.ntmps - xs.size) undef).size ⟨init as, Hp.empty⟩ { tmps := xs ++ Array.replicate (fn.ntmps - xs.size) undef, defers := [] } w (stab S) :=
    ⟨⟨⟨fun _ => none, hSz, fun b x hb => (by cases hb), fun i A hA => (by cases hA)⟩, Grow.refl _ _, Below.refl _ _, Nat.le_refl _, fun _ _ => rfl, fun _ _ _ => rfl, Nat.le_refl _, Nat.le_refl _, fun _ _ => rfl, fun _ _ h => h, fun _ _ => rfl, fun _ _ h _ => h⟩, init_ok hxs _, rfl, rfl⟩
  refine wp_mono (h.out w.heap.size (stab S) w Hp.empty _ _ w (stab S) (by simp; omega) (fun w' hw' => hS.low w w' hLw hw') hC) ?_
  intro e a' w' hp
  rcases hp with ⟨ex, s', G', rfl, h2, h3⟩ | ⟨v, rfl, rfl, hd, hb⟩
  · exact h2.elim
  · exact ⟨hd, rfl, hb⟩
theorem RefC.of_SW {f : Nat} {fn : Func} {body : Code} {as : List V} {hp hp' : Hp} {r : V} (h1 : C.P.funcs[f]? = some fn) (h2 : fn.body = some body)
    (h : SW C L fn.ntmps body ⟨init as, hp⟩ (fun ex s' => match ex with | .exit _ => False | _ => resOf C.P fn s' = some r ∧ ∃ n m, n ≤ hp'.n ∧ m ≤ hp'.m ∧ hp'.h = s'.hp.h ∧ s'.hp.n ≤ hp'.n ∧ s'.hp.m ≤ hp'.m ∧ ∀ i A, hp'.a i = some A → s'.hp.a i = some A) (fun _ => False)) : RefC C.P L f as hp r hp' := by
  intro base G w xs hL hs hB hfb hfa hxs
  refine calls_of_wp h1 h2 ?_
  have hC : CInv [] base G w hp (xs ++ Array.replicate (fn.ntmps - xs.size) undef).size ⟨init as, hp⟩ { tmps := xs ++ Array.replicate (fn.ntmps - xs.size) undef, defers := [] } w G :=
    ⟨⟨hs, Grow.refl _ _, Below.refl _ _, hB, hfb, hfa, Nat.le_refl _, Nat.le_refl _, fun _ _ => rfl, fun _ _ h => h, hfb, fun _ _ h _ => h⟩, init_ok hxs _, rfl, rfl⟩
  refine wp_mono (h.out base G w hp _ _ w G (by simp; omega) hL hC) ?_
  intro e a' w' hp1
  rcases hp1 with ⟨ex, s', G', rfl, h3, h4⟩ | ⟨v, rfl, hx, _⟩
  · have key : (resOf C.P fn s' = some r ∧ ∃ n m, n ≤ hp'.n ∧ m ≤ hp'.m ∧ hp'.h = s'.hp.h ∧ s'.hp.n ≤ hp'.n ∧ s'.hp.m ≤ hp'.m ∧ ∀ i A, hp'.a i = some A → s'.hp.a i = some A) → a'.defers = [] ∧ ∃ v, (results fn a'.tmps).run C.P w' = .ok v w' ∧ ∃ x G', Ending.returned v = .returned x ∧ FInv base G w hp G' hp' w' ∧ VR G' w' r x := by
      rintro ⟨hr, n, m, _, _, k1, k2, k3, k4⟩
      obtain ⟨x, g1, g2⟩ := resOf_ok h4 hr
      refine ⟨h4.d, x, g1, x, G', rfl, ?_, g2⟩
      have := (h4.inv.upTo k2 k3).drop k4
      have e : hp' = ⟨s'.hp.h, hp'.n, hp'.a, hp'.m⟩ := by rw [← k1]
      rw [e]
      exact this
    cases ex with
    | normal => exact key h3
    | ret => exact key h3
    | exit i => exact h3.elim
  · exact hx.elim
end
end Go.Ab
end
