/- The abstract evaluator of the model, part c: definitions and laws, of no program. -/
import Derived.Test.YtkgapncajjafoaaGreatDoorEb
set_option linter.all false
/- The abstract evaluator: operations one by one. -/
namespace Go.Eng
section
variable {P : Program} {E : Env} {ρ : Ren} {s : St} {w : World}

theorem VRels.one {l : List Value} {v : Value} (h : VRels ρ [v] l) : ∃ v', l = [v'] ∧ VRel ρ v v' := by
  cases h with
  | cons h hs => cases hs; exact ⟨_, rfl, h⟩
theorem VRels.two {l : List Value} {v u : Value} (h : VRels ρ [v, u] l) : ∃ v' u', l = [v', u'] ∧ VRel ρ v v' ∧ VRel ρ u u' := by
  cases h with
  | cons h hs => obtain ⟨u', rfl, h2⟩ := hs.one; exact ⟨_, _, rfl, h, h2⟩

theorem int_in (l : Int) (h0 : 0 ≤ l) (h : l ≤ 2 ^ 62) : IntKind.i64.wrap l = l := by
  have : IntKind.bits .i64 = 64 := rfl
  simp only [IntKind.wrap, this, IntKind.signed]
  have h1 : l % (2 ^ 64 : Int) = l := Int.emod_eq_of_lt h0 (by omega)
  rw [h1]
  have h2 : ¬ ((9223372036854775808 : Int) ≤ l) := by omega
  simp [h2]

theorem newV_ok (ok : E.Ok P) (h : Rel E ρ s w) {argTypes : Array TypeId} {size bytes : Nat} {z x x' : Value} (hx : VRel ρ x x') {n : Nat} {new : List Value}
    {elem : TypeId} {i : TypeInfo} (hi : E.tt.get elem = some i) (hb : i.bytes = bytes) (hz : E.zero elem = some z) (hzs : z.cells.size = size)
    (hv : newV E s argTypes size bytes z x = some (n, new)) :
    ∃ zeros : Bool, ((argTypes[1]? = none ∧ zeros = false) ∨ ∃ xt d, argTypes[1]? = some xt ∧ (underlying xt).run P w = .ok d w ∧ ((zeros = true ∧ ∃ k, d = .int k) ∨ (zeros = false ∧ ∀ k, d = .int k → False))) ∧
      ((zeros = false ∧ (Builtin.lenOf x').run P w = .ok n w) ∨ (zeros = true ∧ ∃ l, x' = .int .i64 l ∧ IntKind.i64.wrap l = l ∧ ¬ l < 0 ∧ ¬ (l * (i.bytes : Int) > 2 ^ 48) ∧ n = l.toNat)) ∧
      ∀ w0 : World, Rel E ρ s w0 → ∃ new', (if !zeros then Builtin.firstCells size n x' else if n * size = 0 then pure #[] else do pure (Builtin.zeroCells (← zeroValue elem).cells n) : Sem (Array Value)).run P w0 = .ok new'.toArray w0 ∧ VRels ρ new new' := by
  unfold newV at hv
  have hzz : ∀ zz : Bool, (match argTypes[1]? with
      | some xType => (match E.under xType with | some (.int _) => some true | some _ => some false | none => none)
      | none => some false) = some zz → ((argTypes[1]? = none ∧ zz = false) ∨ ∃ xt d, argTypes[1]? = some xt ∧ (underlying xt).run P w = .ok d w ∧ ((zz = true ∧ ∃ k, d = .int k) ∨ (zz = false ∧ ∀ k, d = .int k → False))) := by
    intro zz hq
    cases ha : argTypes[1]? with
    | none => rw [ha] at hq; cases hq; exact .inl ⟨rfl, rfl⟩
    | some xt =>
      rw [ha] at hq
      simp only at hq
      cases hu : E.under xt with
      | none => rw [hu] at hq; cases hq
      | some d =>
        rw [hu] at hq
        refine .inr ⟨xt, d, rfl, under_of ok hu, ?_⟩
        cases d <;> simp_all <;> (first | exact Or.inr (fun _ hh => by cases hh) | skip)
  simp only at hv
  split at hv
  · rename_i hq
    refine ⟨true, hzz true hq, ?_⟩
    split at hv
    · rename_i l
      split at hv
      · rename_i hc
        obtain ⟨h0, h1, h2⟩ := hc
        cases hv
        cases hx
        have hl : l ≤ 2 ^ 40 := by
          have : l * 1 ≤ l * bytes := Int.mul_le_mul_of_nonneg_left (by omega) h0
          omega
        refine ⟨?_, ?_⟩
        · have e := int_in l h0 (by omega)
          have g1 : ¬ l < 0 := by omega
          have g2 : ¬ (l * (i.bytes : Int) > 2 ^ 48) := by rw [hb]; omega
          exact .inr ⟨rfl, l, rfl, e, g1, g2, rfl⟩
        · intro w0 h0'
          obtain ⟨hz1, hz2⟩ := zero_of (w := w0) ok hz
          by_cases hn : l.toNat * size = 0
          · refine ⟨[], by simp [hn], ?_⟩; rw [if_pos hn]; exact .nil
          · refine ⟨(Builtin.zeroCells z.cells l.toNat).toList, by simp [hn, hz1], ?_⟩
            rw [if_neg hn]
            refine zeroCells_rel ?_ _
            cases z <;> first | (simpa [flat, Value.cells] using hz2) | (simp [Value.cells, flats]; exact hz2)
      · cases hv
    · cases hv
  · rename_i hq
    refine ⟨false, hzz false hq, ?_⟩
    split at hv
    · rename_i m hm
      cases hf : firstV s size m x with
      | none => rw [hf] at hv; cases hv
      | some l =>
        rw [hf] at hv; cases hv
        refine ⟨.inl ⟨rfl, lenOf_ok hx hm⟩, ?_⟩
        intro w0 h0
        obtain ⟨l', h1, h2⟩ := firstV_ok (P := P) h0 hx hm (Nat.le_refl _) hf
        exact ⟨l', by simpa using h1, h2⟩
    · cases hv
  · cases hv

theorem appendV_ok (ok : E.Ok P) (h : Rel E ρ s w) {argTypes : Array TypeId} {xs xs' : List Value} (hx : VRels ρ xs xs') {v : Value} {s' : St} (ty : TypeId)
    (hv : appendV E s argTypes xs = some (v, s')) : VOk P E ρ s w (Builtin.append_ argTypes ty xs'.toArray) v s' := by
  unfold appendV at hv
  split at hv
  case h_2 => cases hv
  rename_i sType base sLen cp x hs
  obtain ⟨sv', x', rfl, hsv, hx'⟩ := hx.two
  split at hv
  case h_2 => cases hv
  rename_i elem hu
  split at hv
  case h_2 => cases hv
  rename_i size bytes z hsz hby hz
  split at hv
  case h_1 => cases hv
  rename_i n new hnew
  split at hv
  case isTrue => cases hv
  rename_i hc
  simp only [not_or] at hc
  obtain ⟨hc1, hc2, hc3, hc4⟩ := hc
  cases hi : E.tt.get elem with
  | none => rw [hi] at hby; cases hby
  | some i =>
    rw [hi] at hby
    have hbi : i.bytes = bytes := by simpa using hby
    have hzs := zero_size hz hsz
    obtain ⟨zeros, q1, q2, q3⟩ := newV_ok (P := P) (w := w) ok h hx' hi hbi hz hzs hnew
    obtain ⟨base', sCap', rfl, hok⟩ := growV_ok (P := P) (zeros := zeros) (x' := x') ok h hi hz hzs hsz (by omega) (by omega) (by rw [hbi]; omega) (by omega) hsv q3 hv
    obtain ⟨ρ', w', v', r1, r2⟩ := hok
    refine ⟨ρ', w', v', ?_, r2⟩
    rw [← r1]
    unfold Builtin.append_
    simp only [hs, List.getElem?_toArray, List.getElem?_cons_zero, List.getElem?_cons_succ, Sem.run_bind, under_of ok hu, Result.andThen_ok, size_eq ok hsz]
    unfold appTail
    rcases q1 with ⟨ha, hzf⟩ | ⟨xt, d, ha, hd, hzf⟩
    · rcases q2 with ⟨hz1, hl⟩ | ⟨hz1, -⟩
      · subst hz1
        simp only [ha, Bool.false_eq_true, if_false, Sem.run_bind, Sem.run_pure, Result.andThen_ok, hl]
        rfl
      · rw [hzf] at hz1; cases hz1
    · rcases q2 with ⟨hz1, hl⟩ | ⟨hz1, l, rfl, e1, e2, e3, rfl⟩
      · subst hz1
        rcases hzf with ⟨hzf, -⟩ | ⟨-, hzf⟩
        · cases hzf
        simp only [ha, Sem.run_bind, hd, Sem.run_pure, Result.andThen_ok, hzf, Bool.false_eq_true, if_false, hl]
        rfl
      · subst hz1
        rcases hzf with ⟨-, k, rfl⟩ | ⟨hzf, -⟩
        · simp only [ha, Sem.run_bind, hd, Sem.run_pure, Result.andThen_ok, if_true, asInt, asIntOf, e1, Sem.run_ite, e2, if_false, info_of ok hi, e3]
          rfl
        · cases hzf
end
end Go.Eng

/- The abstract evaluator: operations one by one. -/
namespace Go.Eng
section
variable {P : Program} {E : Env} {ρ : Ren} {s : St} {w : World}

theorem copyV_ok (ok : E.Ok P) (h : Rel E ρ s w) {argTypes : Array TypeId} {xs xs' : List Value} (hx : VRels ρ xs xs') {v : Value} {s' : St} (ty : TypeId)
    (hv : copyV E s argTypes xs = some (v, s')) : VOk P E ρ s w (Builtin.copy_ argTypes ty xs'.toArray) v s' := by
  unfold copyV at hv
  split at hv
  case h_2 => cases hv
  rename_i dType base dLen cp x hs
  obtain ⟨dv', x', rfl, hd, hx'⟩ := hx.two
  split at hv
  case h_2 => cases hv
  rename_i elem hu
  split at hv
  case h_2 => cases hv
  rename_i size m hsz hm
  simp only at hv
  split at hv
  case h_2 => cases hv
  rename_i cs hf
  obtain ⟨cs', r1, r2⟩ := firstV_ok (P := P) h hx' hm (Nat.min_le_left _ _) hf
  have hd' : ∃ base' cp', dv' = .slice base' dLen cp' ∧ ((base = none ∧ base' = none) ∨ ∃ b o hi L o', base = some ⟨b, o, some hi⟩ ∧ base' = some ⟨Loc.c L, o', none⟩ ∧ ρ b hi = some L ∧ (o' = o ∨ dLen = 0)) := by
    cases hd
    case sliceNil => exact ⟨none, _, rfl, .inl ⟨rfl, rfl⟩⟩
    case slice => exact ⟨_, _, rfl, .inr ⟨_, _, _, _, _, rfl, rfl, by assumption, .inl rfl⟩⟩
    case sliceOpen => exact ⟨_, _, rfl, .inr ⟨_, _, _, _, _, rfl, rfl, by assumption, .inl rfl⟩⟩
    case sliceEnd => exact ⟨_, _, rfl, .inr ⟨_, _, _, _, _, rfl, rfl, by assumption, .inr rfl⟩⟩
    case sliceZero => exact ⟨_, _, rfl, .inr ⟨_, _, _, _, _, rfl, rfl, by assumption, .inr rfl⟩⟩
  obtain ⟨base', cp', rfl, hb⟩ := hd'
  have hlen := lenOf_ok (P := P) (w := w) hx' hm
  have hrun : ∀ w', (match base' with | some a => (storeCells a cs').run P w = .ok () w' | none => w' = w) → (Builtin.copy_ argTypes ty #[.slice base' dLen cp', x']).run P w = .ok (goInt (Nat.min m dLen)) w' := by
    intro w' hw'
    simp only [Builtin.copy_, hs, List.getElem?_toArray, List.getElem?_cons_zero, List.getElem?_cons_succ, Sem.run_bind, under_of ok hu, Result.andThen_ok, size_eq ok hsz, hlen, r1]
    cases base' with
    | none => subst hw'; rfl
    | some a =>
      simp only at hw'
      simp [hw']
  split at hv
  · rename_i hn0
    cases hv
    have hcs : cs' = [] := by
      have := r2.length_eq
      have hl : cs.length = 0 := by
        cases hx' <;> simp only [firstV, hn0] at hf <;> (try (cases hf; done)) <;> simp at hf <;> first | (subst hf; rfl) | (rw [← hf]; rfl)
      rw [hl] at this
      exact List.eq_nil_of_length_eq_zero this.symm
    subst hcs
    refine VOk.here h (v' := goInt 0) ?_ (.int _ _)
    rw [show (0 : Int) = ((Nat.min m dLen : Nat) : Int) from by rw [hn0]; rfl]
    refine hrun w ?_
    cases base' <;> simp [storeCells]
  · rename_i hn0
    split at hv
    · rename_i a
      split at hv
      · rename_i hl
        cases hw : writeN s a cs with
        | none => rw [hw] at hv; cases hv
        | some s1 =>
          rw [hw] at hv; cases hv
          rcases hb with ⟨hb, -⟩ | ⟨b, o, hi, L, o', hb, rfl, hρ, ho⟩
          · cases hb
          · cases hb
            have ho' : o' = o := by
              rcases ho with ho | ho
              · exact ho
              · exact absurd (by rw [ho]; exact Nat.min_zero _) hn0
            subst ho'
            obtain ⟨w', q1, q2, q3⟩ := writeN_rel (P := P) h hρ r2 hw
            exact ⟨ρ, w', _, hrun w' q1, q2, q3, .int _ _⟩
      · cases hv
    · cases hv

theorem sliceBound_ok {x x' : Value} (hx : VRel ρ x x') {y : Nat} {c : BoundsCode} {n : Nat} (h : now (Instr.sliceBound x y c) = some n) :
    ∃ k, x = .int k n ∧ x' = .int k n ∧ n ≤ y := by
  cases hx <;> simp only [Instr.sliceBound, asIntOf] at h <;> try (cases h; done)
  case int k i =>
    by_cases hc : 0 ≤ i ∧ i ≤ y
    · simp only [bind, Sem.bind, pure, hc, and_self, if_true, now, Option.some.injEq] at h
      refine ⟨k, ?_, ?_, by omega⟩ <;> (congr 1; omega)
    · simp only [bind, Sem.bind, pure, hc, if_false] at h
      exfalso
      unfold boundsPanic at h
      by_cases hs : (k != .u64 && 0 ≤ i && i ≤ 31) = true
      · simp only [hs, if_true, bind, Sem.bind, Functor.map, choose, now] at h; cases h
      · simp only [Bool.not_eq_true] at hs
        simp only [hs, Bool.false_eq_true, if_false, bind, Sem.bind, runtimePanic, program, now, pure] at h; cases h

theorem now_bind {α β : Type} {x : Sem α} {f : α → Sem β} {b : β} (h : now (x >>= f) = some b) : ∃ a, now x = some a ∧ now (f a) = some b := by
  cases x <;> simp only [bind, Sem.bind, now] at h <;> first | (cases h; done) | exact ⟨_, rfl, h⟩
theorem sliceBound_run {k : IntKind} {n y : Nat} {c : BoundsCode} (h : n ≤ y) : (Instr.sliceBound (.int k n) y c).run P w = .ok n w := by
  simp only [Instr.sliceBound, asIntOf, Sem.run_bind, Sem.run_pure, Result.andThen_ok]
  rw [if_pos ⟨by omega, by omega⟩]; simp

inductive OVRel (ρ : Ren) : Option Value → Option Value → Prop where
  | none : OVRel ρ none none
  | some {v v' : Value} (h : VRel ρ v v') : OVRel ρ (some v) (some v')

theorem sliceBounds_ok {b : Bool} {len cap cap' : Nat} {lo hi mx lo' hi' mx' : Option Value} {l h m : Nat} (hl : OVRel ρ lo lo') (hh : OVRel ρ hi hi') (hm : OVRel ρ mx mx') (hc : cap ≤ cap')
    (hn : now (Instr.sliceBounds b len cap lo hi mx) = some (l, h, m)) :
    (Instr.sliceBounds b len cap' lo' hi' mx').run P w = .ok (l, h, if mx.isSome then m else cap') w ∧ (mx = none → m = cap) ∧ (mx.isSome = true → m ≤ cap) ∧ l ≤ h := by
  unfold Instr.sliceBounds at hn
  cases hm with
  | none =>
    obtain ⟨m1, e1, hn⟩ := now_bind hn
    simp only [pure, now, Option.some.injEq] at e1
    subst e1
    cases hh with
    | none =>
      obtain ⟨h1, e2, hn⟩ := now_bind hn
      simp only [pure, now, Option.some.injEq] at e2
      subst e2
      cases hl with
      | none =>
        obtain ⟨l1, e3, hn⟩ := now_bind hn
        simp only [pure, now, Option.some.injEq] at e3
        subst e3
        simp only [pure, now, Option.some.injEq, Prod.mk.injEq] at hn
        obtain ⟨rfl, rfl, rfl⟩ := hn
        exact ⟨by simp [Instr.sliceBounds], fun _ => rfl, fun hh => (by cases hh), Nat.zero_le _⟩
      | some hv =>
        obtain ⟨l1, e3, hn⟩ := now_bind hn
        simp only [pure, now, Option.some.injEq, Prod.mk.injEq] at hn
        obtain ⟨rfl, rfl, rfl⟩ := hn
        obtain ⟨k, -, rfl, q⟩ := sliceBound_ok hv e3
        exact ⟨by simp [Instr.sliceBounds, sliceBound_run q], fun _ => rfl, fun hh => (by cases hh), q⟩
    | some hhv =>
      obtain ⟨h1, e2, hn⟩ := now_bind hn
      obtain ⟨k, -, rfl, q⟩ := sliceBound_ok hhv e2
      cases hl with
      | none =>
        obtain ⟨l1, e3, hn⟩ := now_bind hn
        simp only [pure, now, Option.some.injEq] at e3
        subst e3
        simp only [pure, now, Option.some.injEq, Prod.mk.injEq] at hn
        obtain ⟨rfl, rfl, rfl⟩ := hn
        exact ⟨by simp [Instr.sliceBounds, sliceBound_run (Nat.le_trans q hc)], fun _ => rfl, fun hh => (by cases hh), Nat.zero_le _⟩
      | some hv =>
        obtain ⟨l1, e3, hn⟩ := now_bind hn
        simp only [pure, now, Option.some.injEq, Prod.mk.injEq] at hn
        obtain ⟨rfl, rfl, rfl⟩ := hn
        obtain ⟨k, -, rfl, q2⟩ := sliceBound_ok hv e3
        exact ⟨by simp [Instr.sliceBounds, sliceBound_run q2, sliceBound_run (Nat.le_trans q hc)], fun _ => rfl, fun hh => (by cases hh), q2⟩
  | some hmv =>
    obtain ⟨m1, e1, hn⟩ := now_bind hn
    obtain ⟨k, -, rfl, q⟩ := sliceBound_ok hmv e1
    cases hh with
    | none =>
      obtain ⟨h1, e2, hn⟩ := now_bind hn
      simp only [stuck, now] at e2; cases e2
    | some hhv =>
      obtain ⟨h1, e2, hn⟩ := now_bind hn
      obtain ⟨k, -, rfl, q1⟩ := sliceBound_ok hhv e2
      cases hl with
      | none =>
        obtain ⟨l1, e3, hn⟩ := now_bind hn
        simp only [pure, now, Option.some.injEq] at e3
        subst e3
        simp only [pure, now, Option.some.injEq, Prod.mk.injEq] at hn
        obtain ⟨rfl, rfl, rfl⟩ := hn
        exact ⟨by simp [Instr.sliceBounds, sliceBound_run (Nat.le_trans q hc), sliceBound_run q1], fun hh => (by cases hh), fun _ => q, Nat.zero_le _⟩
      | some hv =>
        obtain ⟨l1, e3, hn⟩ := now_bind hn
        simp only [pure, now, Option.some.injEq, Prod.mk.injEq] at hn
        obtain ⟨rfl, rfl, rfl⟩ := hn
        obtain ⟨k, -, rfl, q2⟩ := sliceBound_ok hv e3
        exact ⟨by simp [Instr.sliceBounds, sliceBound_run (Nat.le_trans q hc), sliceBound_run q1, sliceBound_run q2], fun hh => (by cases hh), fun _ => q, q2⟩

theorem aadd_rel {b o hi : Nat} {L : Loc} (n : Nat) (h : ρ b hi = some L) : VRel ρ (.pointer (some (aadd ⟨b, o, some hi⟩ n))) (.pointer (some ((⟨L.c, o, none⟩ : Addr).add n))) := by
  rw [add_eq]; exact .ptr h

theorem sliceV_ok (ok : E.Ok P) (h : Rel E ρ s w) {t : TypeId} {x x' v : Value} {lo hi mx lo' hi' mx' : Option Value} (hx : VRel ρ x x') (hl : OVRel ρ lo lo') (hh : OVRel ρ hi hi') (hm : OVRel ρ mx mx')
    (hv : sliceV E s t x lo hi mx = some v) : ∃ v', (Instr.sliceAt t x' lo' hi' mx').run P w = .ok v' w ∧ VRel ρ v v' := by
  have hmx : mx'.isSome = mx.isSome := by cases hm <;> rfl
  unfold sliceV at hv
  split at hv
  · -- an array's address
    rename_i n elem a hu
    split at hv
    · rename_i l h1 m size hb hsz
      cases hv
      cases hx
      rename_i b o hib L hρ
      obtain ⟨q1, q2, q3, q4⟩ := sliceBounds_ok (P := P) (w := w) hl hh hm (Nat.le_refl n) hb
      have q5 : (if mx.isSome then m else n) = m := by
        cases hmm : mx with
        | none => simp [q2 hmm]
        | some _ => simp
      rw [q5] at q1
      refine ⟨.slice (some (if m = l then ⟨L.c, o, none⟩ else (⟨L.c, o, none⟩ : Addr).add (l * size))) (h1 - l) (m - l), ?_, ?_⟩
      · simp only [Instr.sliceAt, Sem.run_bind, under_of ok hu, Result.andThen_ok, Instr.sureAddr, Sem.run_pure, q1, size_eq ok hsz]
      · by_cases hml : m = l
        · simp only [hml, if_true]; exact .slice _ _ hρ
        · simp only [hml, if_false, add_eq]; exact .slice _ _ hρ
    · cases hv
  · rename_i b hu
    split at hv
    · cases hv
    · rename_i hmn
      split at hv
      · rename_i l h1 m hb
        cases hv
        cases hx
        have hmnone : mx = none := by cases mx <;> simp_all
        subst hmnone
        cases hm
        obtain ⟨q1, q2, q3, q4⟩ := sliceBounds_ok (P := P) (w := w) hl hh .none (Nat.le_refl b.size) hb
        refine ⟨_, ?_, .string _⟩
        simp only [Instr.sliceAt, Sem.run_bind, under_of ok hu, Result.andThen_ok, Instr.slice, Option.isSome_none, Bool.false_eq_true, if_false, q1, Sem.run_pure, bytes_extract]
      · cases hv
  · rename_i elem len cap hu
    split at hv
    · rename_i l h1 m size hb hsz
      cases hv
      cases hx
      obtain ⟨q1, q2, q3, q4⟩ := sliceBounds_ok (P := P) (w := w) hl hh hm (Nat.le_refl cap) hb
      have q5 : (if mx.isSome then m else cap) = m := by
        cases hmm : mx with
        | none => simp [q2 hmm]
        | some _ => simp
      rw [q5] at q1
      refine ⟨_, ?_, .sliceNil _ _⟩
      simp only [Instr.sliceAt, Sem.run_bind, under_of ok hu, Result.andThen_ok, Instr.slice, q1, size_eq ok hsz, Sem.run_pure]
      congr 2
      by_cases hml : m = l <;> simp [hml]
    · cases hv
  · rename_i elem a len c hu
    split at hv
    · rename_i l h1 m size hb hsz
      split at hv
      case isTrue => cases hv
      rename_i hhc
      cases hv
      obtain ⟨q1, q2, q3, q4⟩ := sliceBounds_ok (P := P) (w := w) hl hh hm (Nat.le_refl c) hb
      have q5 : (if mx.isSome then m else c) = m := by
        cases hmm : mx with
        | none => simp [q2 hmm]
        | some _ => simp
      have q6 : m ≤ c := by
        cases hmm : mx with
        | none => rw [q2 hmm]; exact Nat.le_refl _
        | some _ => exact q3 (by rw [hmm]; rfl)
      rw [q5] at q1
      have hrun : ∀ a' : Addr, (Instr.sliceAt t (.slice (some a') len c) lo' hi' mx').run P w = .ok (.slice (some (if m = l then a' else a'.add (l * size))) (h1 - l) (m - l)) w := by
        intro a'
        simp only [Instr.sliceAt, Sem.run_bind, under_of ok hu, Result.andThen_ok, Instr.slice, q1, size_eq ok hsz, Sem.run_pure, Option.map_some]
        by_cases hml : m = l <;> simp [hml]
      have hfin : ∀ {b o hib : Nat} {L : Loc}, ρ b hib = some L → a = ⟨b, o, some hib⟩ → VRel ρ (.slice (some (if m = l then a else aadd a (l * size))) (h1 - l) (m - l + 1)) (.slice (some (if m = l then ⟨L.c, o, none⟩ else (⟨L.c, o, none⟩ : Addr).add (l * size))) (h1 - l) (m - l)) := by
        rintro b o hib L hρ rfl
        by_cases hml : m = l
        · simp only [hml, if_true]; exact .slice _ _ hρ
        · simp only [hml, if_false, add_eq]; exact .slice _ _ hρ
      cases hx
      case slice => exact ⟨_, hrun _, hfin (by assumption) rfl⟩
      case sliceZero b o hib o' L hρ =>
        refine ⟨_, hrun _, ?_⟩
        have hl0 : l = 0 := by omega
        have hm0 : m = 0 := by omega
        have hh0 : h1 = 0 := by omega
        subst hl0; subst hm0; subst hh0
        simp only [if_true, Nat.sub_zero]
        exact .sliceZero hρ
    · cases hv
  · rename_i elem a len hu
    split at hv
    · rename_i size hsz
      split at hv
      · rename_i c hoc
        split at hv
        · rename_i l h1 m hb
          simp only [openCap] at hoc
          split at hoc
          case h_2 => cases hoc
          rename_i cs e wsz frz ex hib hbl hsp
          split at hoc
          case isFalse => cases hoc
          rename_i hcc
          obtain ⟨rfl, hs0, hoh⟩ := hcc
          cases hoc
          obtain ⟨b, o, spot⟩ := a
          simp only at hbl hsp hoh
          subst hsp
          have hinv : ∃ L, ρ b hib = some L ∧ ∃ o' c, x' = .slice (some ⟨L.c, o', none⟩) len c ∧ ((o' = o ∧ o + c * L.esz = L.sz) ∨ (len = 0 ∧ c = 0 ∧ hib < o + L.esz)) := by
            cases hx
            case sliceOpen => exact ⟨_, by assumption, o, _, rfl, .inl ⟨rfl, by assumption⟩⟩
            case sliceEnd => exact ⟨_, by assumption, _, 0, rfl, .inr ⟨rfl, rfl, by assumption⟩⟩
          obtain ⟨L, hρ, o', c, rfl, hform⟩ := hinv
          obtain ⟨ca, fz, hL1, hL2⟩ := h.cells hρ hbl
          obtain ⟨-, k3, k4, k5, k6, -⟩ := hL2
          have hesz : L.esz = size := by rw [k6, hsz]; rfl
          have hlow : (hib - o) / size ≤ c := by
            rcases hform with ⟨-, hc⟩ | ⟨-, hc, hlt⟩
            · rw [hesz] at hc
              have : hib - o ≤ c * size := by omega
              exact (Nat.div_le_iff_le_mul_add_pred hs0).2 (by rw [Nat.mul_comm] at this; omega)
            · rw [Nat.div_eq_of_lt (by omega)]; omega
          obtain ⟨q1, q2, q3, q4⟩ := sliceBounds_ok (P := P) (w := w) hl hh hm hlow hb
          have hrun : (Instr.sliceAt t (.slice (some ⟨L.c, o', none⟩) len c) lo' hi' mx').run P w =
              .ok (.slice (some (if (if mx.isSome then m else c) = l then ⟨L.c, o', none⟩ else ⟨L.c, o' + l * size, none⟩)) (h1 - l) ((if mx.isSome then m else c) - l)) w := by
            simp only [Instr.sliceAt, Sem.run_bind, under_of ok hu, Result.andThen_ok, Instr.slice, q1, size_eq ok hsz, Sem.run_pure, Option.map_some, add_eq]
            by_cases hml : (if mx.isSome then m else c) = l <;> simp [hml]
          refine ⟨_, hrun, ?_⟩
          split at hv
          case isTrue => cases hv
          rename_i hhc
          have hhc : h1 ≤ (hib - o) / size := Decidable.not_not.1 hhc
          have hoh : o ≤ hib := hoh
          split at hv
          · rename_i hms
            cases hv
            simp only [hms, if_true]
            have hmc : m ≤ (hib - o) / size := q3 hms
            rcases hform with ⟨rfl, hc⟩ | ⟨hl0, hc0, hlt⟩
            · by_cases hml : m = l
              · simp only [hml, if_true]; exact .slice _ _ hρ
              · simp only [hml, if_false]; exact .slice _ _ hρ
            · have hz : (hib - o) / size = 0 := Nat.div_eq_of_lt (by omega)
              have hl0 : l = 0 := by omega
              have hm0 : m = 0 := by omega
              have hh0 : h1 = 0 := by omega
              subst hl0; subst hm0; subst hh0
              simp only [if_true, Nat.sub_zero]
              exact .sliceZero hρ
          · rename_i hms
            have hms' : mx.isSome = false := by simpa using hms
            have hmnone : mx = none := by cases mx <;> simp_all
            cases hv
            have hmc : m = (hib - o) / size := q2 hmnone
            simp only [hms', Bool.false_eq_true, if_false]
            by_cases hcl : c = l
            · have hh1 : h1 = l := by omega
              have hd : (hib - o) / size = l := by omega
              have hlt : hib - o < (l + 1) * size := by
                have := Nat.lt_mul_of_div_lt (show (hib - o) / size < l + 1 by omega) hs0
                exact this
              rw [if_pos hcl, hh1, hcl, Nat.sub_self]
              refine .sliceEnd hρ ?_
              show hib < o + l * size + L.esz
              rw [hesz]
              rw [Nat.add_mul] at hlt
              omega
            · rw [if_neg hcl]
              rcases hform with ⟨rfl, hc⟩ | ⟨hl0, hc0, hlt⟩
              · refine .sliceOpen (o := o' + l * size) _ _ hρ ?_ (by rw [hesz]; exact hs0)
                rw [hesz] at hc ⊢
                have : l * size + (c - l) * size = c * size := by rw [← Nat.add_mul]; congr 1; omega
                omega
              · exfalso; omega
        · cases hv
      · cases hv
    · cases hv
  · cases hv
end
end Go.Eng

/- The abstract evaluator: operations one by one. -/
namespace Go.Eng
section
variable {P : Program} {E : Env} {ρ : Ren} {s : St} {w : World}

theorem ERels.length_eq : ∀ {l l' : List MapEntry}, ERels ρ l l' → l.length = l'.length
  | _, _, .nil => rfl
  | _, _, .cons _ _ _ hs => by simp [hs.length_eq]

theorem Rel.mapObj (h : Rel E ρ s w) {b : Nat} {L : Loc} (e : ρ b 0 = some L) {es : List MapEntry} {clock : Nat} (hb : s.h.get b = some (.map es clock)) :
    ∃ es', w.heap[L.c]? = some (.map es' clock) ∧ ERels ρ es es'.toList := by
  obtain ⟨o, o', h1, h2, h3⟩ := h.obj b 0 L e
  rw [hb] at h1; cases h1
  cases o' <;> simp only [ORel] at h3
  obtain ⟨-, rfl, h4⟩ := h3
  exact ⟨_, h2, h4⟩
theorem run_getObj_map {c : Nat} {es : Array MapEntry} {clock : Nat} (h : w.heap[c]? = some (.map es clock)) : (getObj c).run P w = .ok (.map es clock) w := by
  simp only [getObj, Sem.run, h]

theorem lenV_ok (ok : E.Ok P) (h : Rel E ρ s w) {argTypes : Array TypeId} {x x' v : Value} (hx : VRel ρ x x') (ty : TypeId) (hv : lenV E s argTypes[0]? x = some v) :
    (Builtin.len_ argTypes ty #[x']).run P w = .ok v w ∧ VRel ρ v v := by
  unfold lenV at hv
  split at hv
  · cases hv
  rename_i t ht
  split at hv
  · rename_i b hu; cases hv; cases hx; exact ⟨by simp [Builtin.len_, ht, under_of ok hu], .int _ _⟩
  · rename_i n e x hu; cases hv; exact ⟨by cases hx <;> simp [Builtin.len_, ht, under_of ok hu], .int _ _⟩
  · rename_i e a n c hu; cases hv; cases hx <;> exact ⟨by simp [Builtin.len_, ht, under_of ok hu], .int _ _⟩
  · rename_i hu; cases hv; cases hx; exact ⟨by simp [Builtin.len_, ht, under_of ok hu], .int _ _⟩
  · rename_i r hu
    split at hv
    · rename_i es clock hb
      cases hv
      cases hx
      rename_i L hρ
      obtain ⟨es', h1, h2⟩ := h.mapObj hρ hb
      refine ⟨?_, .int _ _⟩
      have := h2.length_eq
      simp only [Array.length_toList] at this
      simp [Builtin.len_, ht, under_of ok hu, run_getObj_map h1, this]
    · cases hv
  · cases hv

theorem capV_ok (ok : E.Ok P) {argTypes : Array TypeId} {x x' v : Value} (hx : VRel ρ x x') (ty : TypeId) (hv : capV E argTypes[0]? x = some v) :
    (Builtin.cap_ argTypes ty #[x']).run P w = .ok v w ∧ VRel ρ v v := by
  unfold capV at hv
  split at hv
  · cases hv
  rename_i t ht
  split at hv
  · rename_i n e x hu; cases hv; exact ⟨by cases hx <;> simp [Builtin.cap_, ht, under_of ok hu], .int _ _⟩
  · rename_i e n c hu; cases hv; cases hx; exact ⟨by simp [Builtin.cap_, ht, under_of ok hu], .int _ _⟩
  · rename_i e a n c hu; cases hv; cases hx <;> exact ⟨by simp [Builtin.cap_, ht, under_of ok hu], .int _ _⟩
  · cases hv

theorem indexAddrV_ok (ok : E.Ok P) {t : TypeId} {x x' i i' v : Value} (hx : VRel ρ x x') (hi : VRel ρ i i') (hv : indexAddrV E t x i = some v) :
    ∃ v', (Instr.indexAt t x' i').run P w = .ok v' w ∧ VRel ρ v v' := by
  unfold indexAddrV at hv
  split at hv
  · rename_i len elem a k j hu
    split at hv
    · rename_i size hs
      split at hv
      · rename_i hc
        cases hv; cases hx; cases hi
        refine ⟨_, ?_, aadd_rel _ (by assumption)⟩
        simp [Instr.indexAt, asIntOf, under_of ok hu, Instr.sureAddr, hc, size_eq ok hs]
      · cases hv
    · cases hv
  · rename_i elem a len cp k j hu
    split at hv
    · rename_i size hs
      split at hv
      · rename_i hc
        cases hv; cases hi
        have hinv : ∃ b o hib L cp', a = ⟨b, o, some hib⟩ ∧ ρ b hib = some L ∧ x' = .slice (some ⟨Loc.c L, o, none⟩) len cp' := by
          cases hx
          case slice => exact ⟨_, _, _, _, _, rfl, by assumption, rfl⟩
          case sliceOpen => exact ⟨_, _, _, _, _, rfl, by assumption, rfl⟩
          case sliceEnd => exfalso; omega
          case sliceZero => exfalso; omega
        obtain ⟨b, o, hib, L, cp', rfl, hρ, rfl⟩ := hinv
        refine ⟨_, ?_, aadd_rel _ hρ⟩
        simp [Instr.indexAt, asIntOf, under_of ok hu, hc, size_eq ok hs]
      · cases hv
    · cases hv
  · cases hv

theorem indexV_ok (ok : E.Ok P) {t : TypeId} {x x' i i' v : Value} (hx : VRel ρ x x') (hi : VRel ρ i i') (hv : indexV E t x i = some v) :
    ∃ v', (Instr.index t x' i').run P w = .ok v' w ∧ VRel ρ v v' := by
  unfold indexV at hv
  split at hv
  · rename_i len elem cs k j hu
    split at hv
    · rename_i size hs
      split at hv
      · rename_i hc
        cases hx; cases hi
        rename_i cs' hcs
        obtain ⟨v', h1, h2⟩ := partV_ok (P := P) (w := w) ok hcs hv
        refine ⟨v', ?_, h2⟩
        simp only [Instr.index, asIntOf, Sem.run_bind, Sem.run_pure, Result.andThen_ok, under_of ok hu]
        rw [if_pos hc]
        simp only [Sem.run_bind, size_eq ok hs, Result.andThen_ok]
        exact h1
      · cases hv
    · cases hv
  · rename_i b k j hu
    split at hv
    · rename_i hc
      cases hx; cases hi
      cases hb : b.data.toList[j.toNat]? with
      | none => rw [hb] at hv; cases hv
      | some c =>
        rw [hb] at hv; cases hv
        refine ⟨_, ?_, .int _ _⟩
        have hb' : b[j.toNat]? = some c := by
          have hlt : j.toNat < b.data.toList.length := (List.getElem?_eq_some_iff.1 hb).1
          rw [List.getElem?_eq_getElem hlt] at hb
          have hlt' : j.toNat < b.size := by simpa using hlt
          rw [getElem?_pos b j.toNat hlt']
          rw [← hb]; rfl
        simp [Instr.index, asIntOf, under_of ok hu, hc, hb']
    · cases hv
  · cases hv

theorem fieldAddrV_ok (ok : E.Ok P) {t : TypeId} {x x' v : Value} {f : Nat} (hx : VRel ρ x x') (hv : fieldAddrV E t x f = some v) :
    ∃ v', (Instr.fieldAt t x' f).run P w = .ok v' w ∧ VRel ρ v v' := by
  unfold fieldAddrV at hv
  split at hv
  · rename_i fields a hu
    split at hv
    · rename_i fd hf
      split at hv
      · rename_i hn
        cases hv; cases hx
        cases hs : E.size fd.type with
        | none => rw [hs] at hn; simp at hn
        | some n =>
          rw [hs] at hn
          have hn0 : n ≠ 0 := by simpa using hn
          refine ⟨_, ?_, aadd_rel _ (by assumption)⟩
          simp [Instr.fieldAt, under_of ok hu, hf, Instr.sureAddr, fieldPlace, size_eq ok hs, hn0]
      · cases hv
    · cases hv
  · cases hv

theorem fieldV_ok (ok : E.Ok P) {t : TypeId} {x x' v : Value} {f : Nat} (hx : VRel ρ x x') (hv : fieldV E t x f = some v) :
    ∃ v', (Instr.field t x' f).run P w = .ok v' w ∧ VRel ρ v v' := by
  unfold fieldV at hv
  split at hv
  · rename_i fields cs hu
    split at hv
    · rename_i fd hf
      cases hx
      rename_i cs' hcs
      obtain ⟨v', h1, h2⟩ := partV_ok (P := P) (w := w) ok hcs hv
      refine ⟨v', ?_, h2⟩
      simp only [Instr.field, Sem.run_bind, under_of ok hu, Result.andThen_ok, hf, asAgg, Sem.run_pure]
      exact h1
    · cases hv
  · cases hv

/-! ### maps -/
theorem sameNow_ok {kd : TypeDesc} {a b a' b' : Value} (ha : VRel ρ a a') (hb : VRel ρ b b') {r : Option Bool} (h : Instr.sameNow kd a b = r) (hr : r.isSome) : Instr.sameNow kd a' b' = r := by
  subst h
  unfold Instr.sameNow at hr ⊢
  split at hr
  · cases ha; cases hb; rfl
  · cases ha; cases hb; rfl
  · cases ha; cases hb; rfl
  · cases hr
theorem findNow_ok {kd : TypeDesc} {k k' : Value} (hk : VRel ρ k k') : ∀ {es es' : List MapEntry}, ERels ρ es es' → ∀ (i : Nat) {r : Option (Nat × Value)}, Instr.findNow kd k es i = some r →
    ∃ r', Instr.findNow kd k' es' i = some r' ∧ ((r = none ∧ r' = none) ∨ ∃ j v v', r = some (j, v) ∧ r' = some (j, v') ∧ VRel ρ v v' ∧ i ≤ j ∧ j - i < es.length ∧
      (∃ e e', es[j - i]? = some e ∧ es'[j - i]? = some e' ∧ Instr.sameNow kd k e.key = some true))
  | _, _, .nil, i, r, h => by
    simp only [Instr.findNow, Option.some.injEq] at h ⊢
    exact ⟨none, rfl, .inl ⟨h.symm, rfl⟩⟩
  | _, _, .cons (e := e) (e' := e') he hv hb hs, i, r, h => by
    simp only [Instr.findNow] at h ⊢
    split at h
    · rename_i hq
      cases h
      rw [sameNow_ok hk he hq rfl]
      exact ⟨_, rfl, .inr ⟨i, _, _, rfl, rfl, hv, Nat.le_refl _, by simp, e, e', by simp, by simp, hq⟩⟩
    · rename_i hq
      rw [sameNow_ok hk he hq rfl]
      obtain ⟨r', h1, h2⟩ := findNow_ok hk hs (i + 1) h
      refine ⟨r', h1, ?_⟩
      rcases h2 with h2 | ⟨j, v, v', q1, q2, q3, q4, q5, e2, e2', q6, q7, q8⟩
      · exact .inl h2
      · refine .inr ⟨j, v, v', q1, q2, q3, by omega, by simp; omega, e2, e2', ?_, ?_, q8⟩
        · rw [show j - i = (j - (i + 1)) + 1 from by omega]; simpa using q6
        · rw [show j - i = (j - (i + 1)) + 1 from by omega]; simpa using q7
    · cases h

theorem checkKey_run {kd : TypeDesc} {key : TypeId} (hu : (underlying key).run P w = .ok kd w) (hk : keyKind kd = true) (b : Bool) (n : Nat) (v : Value) : (Instr.checkKey b (n + 1) key v).run P w = .ok () w := by
  unfold Instr.checkKey
  rw [Sem.run_bind, hu, Result.andThen_ok]
  cases kd <;> simp [keyKind] at hk <;> cases v <;> simp

theorem lookupV_ok (ok : E.Ok P) (h : Rel E ρ s w) {t : TypeId} {x x' k k' v : Value} {b : Bool} (hx : VRel ρ x x') (hk : VRel ρ k k') (hv : lookupV E s t x k b = some v) :
    ∃ v', (Instr.lookup t x' k' b).run P w = .ok v' w ∧ VRel ρ v v' := by
  unfold lookupV at hv
  split at hv
  case h_2 => cases hv
  rename_i key elem hu
  simp only at hv
  split at hv
  case h_2 => cases hv
  rename_i kd es z hkd hes hz
  split at hv
  case isFalse => cases hv
  rename_i hkk
  have hes' : ∃ es' : Array MapEntry, ERels ρ es es'.toList ∧ ((x' = .map none ∧ es' = #[]) ∨ ∃ c clock, x' = .map (some c) ∧ w.heap[c]? = some (.map es' clock)) := by
    cases hx <;> simp only at hes <;> try (cases hes; done)
    · cases hes; exact ⟨#[], .nil, .inl ⟨rfl, rfl⟩⟩
    · rename_i b L hρ
      split at hes
      · rename_i es0 clock hb
        cases hes
        obtain ⟨es', h1, h2⟩ := h.mapObj hρ hb
        exact ⟨es', h2, .inr ⟨_, _, rfl, h1⟩⟩
      · cases hes
  obtain ⟨es', he, hx2⟩ := hes'
  have hkd' := under_of (w := w) ok hkd
  obtain ⟨hz1, hz2⟩ := zero_of (w := w) ok hz
  have tail : ∃ v', (do
      Instr.checkKey es'.isEmpty 10000 key k'
      let (v, ok) ← match ← Instr.findKey key k' es'.toList with
        | some (_, v) => pure (v, true)
        | none => do pure (← zeroValue elem, false)
      pure (if b then .tuple #[v, .bool ok] else v) : Sem Value).run P w = .ok v' w ∧ VRel ρ v v' := by
    split at hv
    · rename_i i0 v0 hf
      cases hv
      obtain ⟨r', q1, q2⟩ := findNow_ok hk he 0 hf
      rcases q2 with ⟨q2, -⟩ | ⟨j, v1, v1', q2, rfl, q3, -⟩
      · cases q2
      · cases q2
        refine ⟨if b then .tuple #[v1', .bool true] else v1', ?_, ?_⟩
        · simp only [Sem.run_bind, checkKey_run hkd' hkk, Result.andThen_ok, Instr.findKey, hkd', q1, Sem.run_pure]
        · cases b
          · exact q3
          · exact .tuple (.cons q3 (.cons (.bool _) .nil))
    · rename_i hf
      cases hv
      obtain ⟨r', q1, q2⟩ := findNow_ok hk he 0 hf
      rcases q2 with ⟨-, rfl⟩ | ⟨j, v1, v1', q2, -⟩
      · refine ⟨if b then .tuple #[z, .bool false] else z, ?_, ?_⟩
        · simp only [Sem.run_bind, checkKey_run hkd' hkk, Result.andThen_ok, Instr.findKey, hkd', q1, Sem.run_pure, hz1]
        · cases b
          · exact zero_rel hz
          · exact .tuple (.cons (zero_rel hz) (.cons (.bool _) .nil))
      · cases q2
    · cases hv
  obtain ⟨v', t1, t2⟩ := tail
  refine ⟨v', ?_, t2⟩
  rw [← t1]
  rcases hx2 with ⟨rfl, rfl⟩ | ⟨c, clock, rfl, hc⟩
  · simp only [Instr.lookup, Sem.run_bind, under_of ok hu, Result.andThen_ok, Sem.run_pure]
    rfl
  · simp only [Instr.lookup, Sem.run_bind, under_of ok hu, Result.andThen_ok, run_getObj_map hc, Sem.run_pure]
    rfl

theorem sameBits_key {kd : TypeDesc} {a b : Value} (h : Instr.sameNow kd a b = some true) (n : Nat) : Instr.sameBits n b a = true := by
  unfold Instr.sameNow at h
  split at h
  · split at h
    · rename_i hk; subst hk; simp at h; subst h; simp [Instr.sameBits]
    · cases h
  · rename_i a b
    simp only [Option.some.injEq] at h
    rw [beq_toListBytes, beq_iff_eq] at h
    simp only [Instr.sameBits]
    rw [beq_toListBytes, h]; simp
  · simp at h; subst h; simp [Instr.sameBits]
  · cases h

theorem ERels.modify {k k' x x' : Value} (hk : VRel ρ k k') (hx : VRel ρ x x') : ∀ {es es' : List MapEntry}, ERels ρ es es' → ∀ i, ERels ρ (es.modify i fun e => { e with key := k, val := x }) (es'.modify i fun e => { e with key := k', val := x' })
  | _, _, .nil, i => by cases i <;> exact .nil
  | _, _, .cons he hv hb hs, 0 => .cons hk hx hb hs
  | _, _, .cons he hv hb hs, i + 1 => .cons he hv hb (hs.modify hk hx i)
theorem ERels.snoc {k k' x x' : Value} {n : Nat} (hk : VRel ρ k k') (hx : VRel ρ x x') : ∀ {es es' : List MapEntry}, ERels ρ es es' → ERels ρ (es ++ [{ key := k, val := x, born := n }]) (es' ++ [{ key := k', val := x', born := n }])
  | _, _, .nil => .cons hk hx rfl .nil
  | _, _, .cons he hv hb hs => .cons he hv hb (hs.snoc hk hx)
theorem run_setObj_map {c : Nat} {es : Array MapEntry} {clock : Nat} (h : w.heap[c]? = some (.map es clock)) (o : Obj) : (setObj c o).run P w = .ok () { w with heap := w.heap.setIfInBounds c o } := by
  simp only [setObj, Sem.run, h]

theorem mapPut_ok (ok : E.Ok P) (h : Rel E ρ s w) {t : TypeId} {m m' k k' x x' : Value} {s' : St} (hm : VRel ρ m m') (hk : VRel ρ k k') (hx : VRel ρ x x') (hv : mapPut E s t m k x = some s') :
    SOk P E ρ s w (Instr.mapUpdate t m' k' x') s' := by
  unfold mapPut at hv
  split at hv
  case h_2 => cases hv
  rename_i key elem r hu
  split at hv
  case h_2 => cases hv
  rename_i kd es clock hkd hb
  split at hv
  case isFalse => cases hv
  rename_i hkk
  cases hm
  rename_i L hρ
  obtain ⟨es', h1, h2⟩ := h.mapObj hρ hb
  have hkd' := under_of (w := w) ok hkd
  have fin : ∀ (es2 : List MapEntry) (es2' : Array MapEntry) (clock2 : Nat), ERels ρ es2 es2'.toList → Rel E ρ (s.put r (.map es2 clock2)) { w with heap := w.heap.setIfInBounds L.c (.map es2' clock2) } ∧
      Ev ρ s w ρ (s.put r (.map es2 clock2)) { w with heap := w.heap.setIfInBounds L.c (.map es2' clock2) } := by
    intro es2 es2' clock2 he
    refine h.set hρ (h.zfree E hb (by intro _ _ _ _ hh; cases hh)) (upd_set h1) ?_
    intro hi' L' e' o' ho' hsame hother
    have hh : hi' = 0 := by
      obtain ⟨o1, o1', q1, q2, q3⟩ := h.obj r hi' L' e'
      rw [hb] at q1; cases q1
      cases o1' <;> simp only [ORel] at q3
      exact q3.1
    subst hh
    rw [hρ] at e'; cases e'
    rw [hsame rfl]
    exact ⟨rfl, rfl, he⟩
  split at hv
  · rename_i i v0 hf
    cases hv
    obtain ⟨r', q1, q2⟩ := findNow_ok hk h2 0 hf
    rcases q2 with ⟨q2, -⟩ | ⟨j, v1, v1', q2, rfl, q3, q4, q5, e, e', q6, q7, q8⟩
    · cases q2
    · cases q2
      simp only [Nat.sub_zero] at q6 q7
      have hee : ∃ he : VRel ρ e.key e'.key, True := by
        have : ∀ {l l' : List MapEntry}, ERels ρ l l' → ∀ (i : Nat), l[i]? = some e → l'[i]? = some e' → VRel ρ e.key e'.key := by
          intro l l' hll
          induction hll with
          | nil => intro i hi; simp at hi
          | cons a b c d ih =>
            intro i hi hi'
            cases i with
            | zero => simp at hi hi'; subst hi; subst hi'; exact a
            | succ i => simp at hi hi'; exact ih i hi hi'
        exact ⟨this h2 _ q6 q7, trivial⟩
      obtain ⟨hee, -⟩ := hee
      have hq8 := sameNow_ok hk hee q8 rfl
      have hkey : ((es'[i]?).map (·.key)).getD k' = e'.key := by
        rw [← Array.getElem?_toList, q7]; rfl
      obtain ⟨f1, f2⟩ := fin (es.modify i fun e => { e with key := k, val := x }) (es'.modify i fun e => { e with key := k', val := x' }) clock (by rw [Array.toList_modify]; exact h2.modify hk hx i)
      refine ⟨ρ, _, ?_, f1, f2⟩
      simp only [Instr.mapUpdate, Sem.run_bind, under_of ok hu, Result.andThen_ok, run_getObj_map h1, checkKey_run hkd' hkk, Instr.findKey, hkd', q1, Sem.run_pure, hkey, Instr.keyThatStays, sameBits_key hq8, if_true, run_setObj_map h1]
  · rename_i hf
    cases hv
    obtain ⟨r', q1, q2⟩ := findNow_ok hk h2 0 hf
    rcases q2 with ⟨-, rfl⟩ | ⟨j, v1, v1', q2, -⟩
    · obtain ⟨f1, f2⟩ := fin (es ++ [{ key := k, val := x, born := clock }]) (es'.push { key := k', val := x', born := clock }) (clock + 1) (by rw [Array.toList_push]; exact h2.snoc hk hx)
      refine ⟨ρ, _, ?_, f1, f2⟩
      simp only [Instr.mapUpdate, Sem.run_bind, under_of ok hu, Result.andThen_ok, run_getObj_map h1, checkKey_run hkd' hkk, Instr.findKey, hkd', q1, Sem.run_pure, run_setObj_map h1]
    · cases q2
  · cases hv

/-! ### iterators -/
theorem it_alloc (h : Rel E ρ s w) (o : AObj) (o' : Obj) (ho : ∀ ρ' : Ren, ρ.le ρ' → ORel E ρ' 0 ⟨w.heap.size, 0, 0, none⟩ o o') :
    ∃ ρ', Rel E ρ' (s.alloc o) (w.alloc o') ∧ Ev ρ s w ρ' (s.alloc o) (w.alloc o') ∧ ∃ L, ρ' s.nx 0 = some L ∧ L.c = w.heap.size := by
  have ev := ev_alloc h (hi := 0) (sz := 0) (esz := 0) o o'
  have := h.alloc (hi := 0) (sz := 0) (esz := 0) (o := o) (o' := o') (ho _ ev.le)
  exact ⟨_, this.1, this.2, _, Ren.with_same _ _ _ _, rfl⟩

theorem rangeV_ok (ok : E.Ok P) (h : Rel E ρ s w) {t : TypeId} {x x' v : Value} {s' : St} (hx : VRel ρ x x') (hv : rangeV E s t x = some (v, s')) : VOk P E ρ s w (Instr.range t x') v s' := by
  unfold rangeV at hv
  have key : ∀ (o : AObj) (o' : Obj), (∀ ρ' : Ren, ρ.le ρ' → ORel E ρ' 0 ⟨w.heap.size, 0, 0, none⟩ o o') → (Instr.range t x').run P w = .ok (.pointer (some ⟨w.heap.size, 0, none⟩)) (w.alloc o') →
      VOk P E ρ s w (Instr.range t x') (.pointer (some ⟨s.nx, 0, some 0⟩)) (s.alloc o) := by
    intro o o' ho hr
    obtain ⟨ρ', q1, q2, L, q3, q4⟩ := it_alloc h o o' ho
    exact ⟨ρ', _, _, hr, q1, q2, q4 ▸ .ptr q3⟩
  split at hv
  · rename_i b hu
    cases hv; cases hx
    exact key _ (.stringIter b 0) (fun _ _ => ⟨rfl, rfl, rfl⟩) (by simp [Instr.range, under_of ok hu])
  · rename_i a b hu
    cases hv; cases hx
    exact key _ (.mapIter none 0 #[] 0) (fun _ _ => ⟨rfl, rfl, rfl, rfl, .inl ⟨rfl, rfl⟩⟩) (by simp [Instr.range, under_of ok hu])
  · rename_i a b m hu
    split at hv
    · rename_i es clock hb
      cases hv; cases hx
      rename_i L hρ
      obtain ⟨es', h1, h2⟩ := h.mapObj hρ hb
      exact key _ (.mapIter (some L.c) clock #[] clock) (fun ρ' le => ⟨rfl, rfl, rfl, rfl, .inr ⟨_, L, rfl, rfl, le _ _ _ hρ⟩⟩) (by simp [Instr.range, under_of ok hu, run_getObj_map h1])
    · cases hv
  · cases hv
end
end Go.Eng

/- The abstract evaluator: operations one by one. -/
namespace Go.Eng
section
variable {P : Program} {E : Env} {ρ : Ren} {s : St} {w : World}

theorem run_getObj_of {c : Nat} {o : Obj} (h : w.heap[c]? = some o) (hc : ∀ a b d, o ≠ .cells a b d) : (getObj c).run P w = .ok o w := by
  simp only [getObj, Sem.run, h]
theorem run_setObj_of {c : Nat} {o : Obj} (h : w.heap[c]? = some o) (hc : ∀ a b d, o ≠ .cells a b d) (o' : Obj) : (setObj c o').run P w = .ok () { w with heap := w.heap.setIfInBounds c o' } := by
  simp only [setObj, Sem.run, h]

/-- A block that is no row of cells is replaced. -/
theorem Rel.setOther (h : Rel E ρ s w) {b : Nat} {L : Loc} (hρ : ρ b 0 = some L) {o : AObj} (hb : s.h.get b = some o) (hz : ∀ hi L o', ORel E ρ hi L o o' → hi = 0) {o1' : Obj} (h1 : w.heap[L.c]? = some o1')
    (o2 : AObj) (o2' : Obj) (ho : ORel E ρ 0 L o2 o2') (hno : ∀ cs e wz ex, o ≠ .cells cs e wz true ex := by intro _ _ _ _ hh; cases hh) :
    Rel E ρ (s.put b o2) { w with heap := w.heap.setIfInBounds L.c o2' } ∧ Ev ρ s w ρ (s.put b o2) { w with heap := w.heap.setIfInBounds L.c o2' } := by
  refine h.set hρ (h.zfree E hb hno) (upd_set h1) ?_
  intro hi' L' e' o' ho' hsame hother
  obtain ⟨o3, o3', q1, q2, q3⟩ := h.obj b hi' L' e'
  rw [hb] at q1; cases q1
  have hh := hz _ _ _ q3
  subst hh
  rw [hρ] at e'; cases e'
  rw [hsame rfl]
  exact ho

theorem filter_rel (p : MapEntry → Bool) (hp : ∀ e e' : MapEntry, e.born = e'.born → p e = p e') : ∀ {es es' : List MapEntry}, ERels ρ es es' → ERels ρ (es.filter p) (es'.filter p)
  | _, _, .nil => .nil
  | _, _, .cons (e := e) (e' := e') he hv hb hs => by
    simp only [List.filter_cons, hp e e' hb]
    split
    · exact .cons he hv hb (filter_rel p hp hs)
    · exact filter_rel p hp hs
theorem ERels.all_eq (p : MapEntry → Bool) (hp : ∀ e e' : MapEntry, e.born = e'.born → p e = p e') : ∀ {es es' : List MapEntry}, ERels ρ es es' → es'.all p = es.all p
  | _, _, .nil => rfl
  | _, _, .cons (e := e) (e' := e') he hv hb hs => by simp [hp e e' hb, hs.all_eq p hp]
theorem ERels.nil_inv {l : List MapEntry} (h : ERels ρ [] l) : l = [] := by cases h; rfl
theorem ERels.one_inv {e : MapEntry} {l : List MapEntry} (h : ERels ρ [e] l) : ∃ e', l = [e'] ∧ VRel ρ e.key e'.key ∧ VRel ρ e.val e'.val ∧ e.born = e'.born := by
  cases h with
  | cons a b c d => cases d; exact ⟨_, rfl, a, b, c⟩
theorem ERels.isEmpty_eq : ∀ {es es' : List MapEntry}, ERels ρ es es' → es'.isEmpty = es.isEmpty
  | _, _, .nil => rfl
  | _, _, .cons _ _ _ _ => rfl

theorem nextV_ok (h : Rel E ρ s w) {it it' v : Value} {b : Bool} {s' : St} (hx : VRel ρ it it') (ty : TypeId) (hv : nextV s it b = some (v, s')) : VOk P E ρ s w (Instr.next it' b ty) v s' := by
  unfold nextV at hv
  split at hv
  case h_2 => cases hv
  rename_i r spot
  cases hx
  rename_i hi L hρ
  obtain ⟨o, o', h1, h2, h3⟩ := h.obj r hi L hρ
  split at hv
  · rename_i bs pos hb
    rw [hb] at h1; cases h1
    cases o' <;> simp only [ORel] at h3
    obtain ⟨rfl, rfl, rfl⟩ := h3
    have hg := run_getObj_of (P := P) h2 (by intro a b d hh; cases hh)
    split at hv
    · rename_i hlt
      cases hv
      obtain ⟨f1, f2⟩ := h.setOther hρ hb (fun hi L o' ho => by cases o' <;> simp only [ORel] at ho; exact ho.1) h2 (.siter bs (pos + (Utf8.decode bs pos).2)) (.stringIter bs (pos + (Utf8.decode bs pos).2)) ⟨rfl, rfl, rfl⟩
      refine ⟨ρ, _, .tuple #[.bool true, goInt pos, .int .i32 (Utf8.decode bs pos).1], ?_, f1, f2, .tuple (.cons (.bool _) (.cons (.int _ _) (.cons (.int _ _) .nil)))⟩
      simp only [Instr.next, Sem.run_bind, hg, Result.andThen_ok]
      rw [if_pos hlt]
      simp only [Sem.run_bind, run_setObj_of h2 (by intro a b d hh; cases hh), Result.andThen_ok, Sem.run_pure]
    · rename_i hlt
      cases hv
      refine VOk.here h ?_ (.tuple (.cons (.bool _) .nil))
      simp only [Instr.next, Sem.run_bind, hg, Result.andThen_ok]
      rw [if_neg hlt]; rfl
  · rename_i since seen stepped hb
    rw [hb] at h1; cases h1
    cases o' <;> simp only [ORel] at h3
    obtain ⟨rfl, rfl, rfl, rfl, h3⟩ := h3
    rcases h3 with ⟨-, rfl⟩ | ⟨b, L', h3, -⟩
    · cases hv
      refine VOk.here h ?_ (.tuple (.cons (.bool _) .nil))
      simp only [Instr.next, Sem.run_bind, run_getObj_of h2 (by intro a b d hh; cases hh), Result.andThen_ok]; rfl
    · cases h3
  · rename_i m since seen last hb
    rw [hb] at h1; cases h1
    cases o' <;> simp only [ORel] at h3
    rename_i m' since' seen' last'
    obtain ⟨rfl, rfl, rfl, rfl, h3⟩ := h3
    rcases h3 with ⟨h3, -⟩ | ⟨bm, Lm, h3, rfl, hρm⟩
    · cases h3
    cases h3
    have hg := run_getObj_of (P := P) h2 (by intro a b d hh; cases hh)
    split at hv
    case h_2 => cases hv
    rename_i es clock hbm
    obtain ⟨es', m1, m2⟩ := h.mapObj hρm hbm
    split at hv
    case isTrue => cases hv
    rename_i hcond
    simp only at hv
    have q1 := filter_rel (fun e => !seen'.toList.contains e.born) (fun e e' he => by rw [he]) m2
    have q2 := filter_rel (fun e => decide (e.born < since)) (fun e e' he => by rw [he]) q1
    have q3 := filter_rel (fun e => decide (e.born ≥ since)) (fun e e' he => by rw [he]) q1
    have hc' : (!seen'.isEmpty && !es'.isEmpty && es'.all (·.born ≥ last)) = false := by
      have a1 : seen'.isEmpty = seen'.toList.isEmpty := by simp
      have a2 : es'.isEmpty = es.isEmpty := by rw [← m2.isEmpty_eq]; simp
      have a3 : es'.all (fun e => decide (e.born ≥ last)) = es.all (fun e => decide (e.born ≥ last)) := by
        rw [← m2.all_eq (fun e => decide (e.born ≥ last)) (fun e e' he => by rw [he])]; simp
      rw [a1, a2, a3]
      simpa using hcond
    have hrun : (Instr.next (.pointer (some ⟨L.c, 0, none⟩)) false ty).run P w = ((do
        match ((if ((es'.filter fun e => !seen'.contains e.born).filter (·.born < since)).isEmpty then #[none] else #[]) ++ (((es'.filter fun e => !seen'.contains e.born).filter (·.born < since)) ++ ((es'.filter fun e => !seen'.contains e.born).filter (·.born ≥ since))).map some : Array (Option MapEntry))[← choose (.mapNext ((if ((es'.filter fun e => !seen'.contains e.born).filter (·.born < since)).isEmpty then #[none] else #[]) ++ (((es'.filter fun e => !seen'.contains e.born).filter (·.born < since)) ++ ((es'.filter fun e => !seen'.contains e.born).filter (·.born ≥ since))).map some : Array (Option MapEntry)).size)]? with
        | some (some e) => do
          setObj L.c (.mapIter (some Lm.c) since (seen'.push e.born) clock)
          pure (.tuple #[.bool true, e.key, e.val])
        | some none => pure (.tuple #[.bool false])
        | none => stuck "Next: no such candidate" : Sem Value).run P w) := by
      simp only [Instr.next, Sem.run_bind, hg, Result.andThen_ok, run_getObj_map m1]
      rw [hc']
      simp only [Bool.false_eq_true, if_false, Sem.run_bind]
      rfl
    have hl : ∀ p : MapEntry → Bool, (es'.filter p).toList = es'.toList.filter p := fun p => by simp
    have ho : ((es'.filter fun e => !seen'.contains e.born).filter (·.born < since)) = ((es'.toList.filter fun e => !seen'.toList.contains e.born).filter fun e => decide (e.born < since)).toArray := by
      apply Array.ext'; simp
    have hn : ((es'.filter fun e => !seen'.contains e.born).filter (·.born ≥ since)) = ((es'.toList.filter fun e => !seen'.toList.contains e.born).filter fun e => decide (e.born ≥ since)).toArray := by
      apply Array.ext'; simp
    rw [ho, hn] at hrun
    split at hv
    · rename_i e1 e2
      rw [e1] at q2; rw [e2] at q3
      have f1 : ((es'.toList.filter fun e => !seen'.toList.contains e.born).filter fun e => decide (e.born < since)) = [] := q2.nil_inv
      have f2 : ((es'.toList.filter fun e => !seen'.toList.contains e.born).filter fun e => decide (e.born ≥ since)) = [] := q3.nil_inv
      rw [f1, f2] at hrun
      cases hv
      refine VOk.here h (hrun.trans ?_) (.tuple (.cons (.bool _) .nil))
      simp [Question.forced]
    · rename_i e e1 e2
      rw [e1] at q2; rw [e2] at q3
      obtain ⟨e', f1, hek, hev, heb⟩ : ∃ e', ((es'.toList.filter fun e => !seen'.toList.contains e.born).filter fun e => decide (e.born < since)) = [e'] ∧ VRel ρ e.key e'.key ∧ VRel ρ e.val e'.val ∧ e.born = e'.born := q2.one_inv
      have f2 : ((es'.toList.filter fun e => !seen'.toList.contains e.born).filter fun e => decide (e.born ≥ since)) = [] := q3.nil_inv
      rw [f1, f2] at hrun
      cases hv
      obtain ⟨g1, g2⟩ := h.setOther hρ hb (fun hi L o' ho => by cases o' <;> simp only [ORel] at ho; exact ho.1) h2 (.miter (some m) since (seen'.toList ++ [e.born]) clock) (.mapIter (some Lm.c) since (seen'.push e'.born) clock)
        ⟨rfl, rfl, by rw [Array.toList_push, heb], rfl, .inr ⟨m, Lm, rfl, rfl, hρm⟩⟩
      refine ⟨ρ, _, _, hrun.trans ?_, g1, g2, .tuple (.cons (.bool _) (.cons hek (.cons hev .nil)))⟩
      simp [Question.forced, run_setObj_of h2]
    · cases hv
  · cases hv

/-! ### aggregates -/
inductive PRels (ρ : Ren) : List (Nat × Value) → List (Nat × Value) → Prop where
  | nil : PRels ρ [] []
  | cons {i : Nat} {v v' : Value} {l l' : List (Nat × Value)} (h : VRel ρ v v') (hs : PRels ρ l l') : PRels ρ ((i, v) :: l) ((i, v') :: l')

theorem foldl_set_rel : ∀ {vs vs' : List Value}, VRels ρ vs vs' → ∀ (off j : Nat) {cs cs' : Array Value}, VRels ρ cs.toList cs'.toList →
    VRels ρ (((vs.zipIdx j).foldl (fun cs (x : Value × Nat) => cs.setIfInBounds (off + x.2) x.1) cs).toList) (((vs'.zipIdx j).foldl (fun cs (x : Value × Nat) => cs.setIfInBounds (off + x.2) x.1) cs').toList)
  | _, _, .nil, off, j, cs, cs', hc => hc
  | _, _, .cons (v := v) (v' := v') h hs, off, j, cs, cs', hc => by
    simp only [List.zipIdx_cons, List.foldl_cons]
    refine foldl_set_rel hs off (j + 1) ?_
    rw [Array.toList_setIfInBounds, Array.toList_setIfInBounds]
    apply VRels.of_get (by simp [hc.length_eq])
    intro i u hu
    by_cases hi : off + j = i
    · subst hi
      rw [List.getElem?_set_self' ] at hu ⊢
      cases hq : cs.toList[off + j]? with
      | none => rw [hq] at hu; cases hu
      | some q =>
        rw [hq] at hu; cases hu
        obtain ⟨q', hq', -⟩ := hc.get _ _ hq
        rw [hq']; exact ⟨v', rfl, h⟩
    · rw [List.getElem?_set_ne hi] at hu ⊢
      exact hc.get i u hu

theorem fill_ok {place : Nat → Option (Nat × Nat)} : ∀ {ps ps' : List (Nat × Value)}, PRels ρ ps ps' → ∀ {cs cs' out : Array Value}, VRels ρ cs.toList cs'.toList → Instr.fill place cs ps = some out →
    ∃ out', Instr.fill place cs' ps' = some out' ∧ VRels ρ out.toList out'.toList
  | _, _, .nil, cs, cs', out, hc, hf => by simp only [Instr.fill] at hf ⊢; cases hf; exact ⟨_, rfl, hc⟩
  | _, _, .cons (i := i) (v := v) (v' := v') h hs, cs, cs', out, hc, hf => by
    simp only [Instr.fill] at hf ⊢
    split at hf
    · cases hf
    · rename_i off size hp
      have h1 : v'.cells.size = v.cells.size := by have := h.cells'.length_eq; simp at this; exact this.symm
      have h2 : cs'.size = cs.size := by have := hc.length_eq; simp at this; exact this.symm
      rw [h1, h2]
      split at hf
      · cases hf
      · rename_i hcond
        rw [if_neg hcond]
        refine fill_ok hs ?_ hf
        have := foldl_set_rel h.cells' off 0 hc
        have e : ∀ (c : Array Value) (vs : Array Value), (vs.zipIdx.foldl (fun cs (x : Value × Nat) => cs.setIfInBounds (off + x.2) x.1) c) = (vs.toList.zipIdx.foldl (fun cs (x : Value × Nat) => cs.setIfInBounds (off + x.2) x.1) c) := by
          intro c vs; rw [← Array.foldl_toList, Array.toList_zipIdx]
        rw [← e, ← e] at this
        exact this

theorem mapM_places (ok : E.Ok P) : ∀ {fs : List Field} {pl : List (Nat × Nat)}, (fs.mapM fun f => (E.size f.type).map (f.offset, ·)) = some pl → (fs.mapM fun f => (do pure (f.offset, ← sizeOf f.type) : Sem (Nat × Nat))).run P w = .ok pl w
  | [], pl, h => by simp at h; subst h; simp
  | f :: fs, pl, h => by
    simp only [List.mapM_cons] at h ⊢
    cases h1 : E.size f.type with
    | none => rw [h1] at h; simp at h
    | some n =>
      rw [h1] at h
      cases h2 : fs.mapM fun f => (E.size f.type).map (f.offset, ·) with
      | none => rw [h2] at h; simp at h
      | some l =>
        rw [h2] at h
        simp at h
        subst h
        simp only [Sem.run_bind, size_eq ok h1, Result.andThen_ok, Sem.run_pure, mapM_places ok h2]

theorem buildV_ok (ok : E.Ok P) {t : TypeId} {ps ps' : List (Nat × Value)} {v : Value} (hp : PRels ρ ps ps') (hv : buildV E t ps = some v) : ∃ v', (Instr.build t ps'.toArray).run P w = .ok v' w ∧ VRel ρ v v' := by
  unfold buildV at hv
  split at hv
  · rename_i z fields hz hu
    split at hv
    · rename_i pl hpl
      cases hf : Instr.fill (pl[·]?) z.cells ps with
      | none => rw [hf] at hv; cases hv
      | some out =>
        rw [hf] at hv; cases hv
        obtain ⟨out', q1, q2⟩ := fill_ok hp (zero_cells (ρ := ρ) hz) hf
        refine ⟨_, ?_, .agg q2⟩
        obtain ⟨hz1, -⟩ := zero_of (w := w) ok hz
        have hm : (fields.mapM fun f => (do pure (f.offset, ← sizeOf f.type) : Sem (Nat × Nat))).run P w = .ok pl.toArray w := by
          rw [Array.mapM_eq_mapM_toList]
          simp only [Sem.run_map, mapM_places ok hpl, Result.andThen_ok]
        simp only [Instr.build, Sem.run_bind, hz1, Result.andThen_ok, under_of ok hu, hm]
        have : (fun x : Nat => (pl.toArray)[x]?) = (fun x : Nat => pl[x]?) := by funext x; simp
        rw [this, q1]; rfl
    · cases hv
  · rename_i z n elem hz hu
    split at hv
    · rename_i size hs
      cases hf : Instr.fill (fun i => some (i * size, size)) z.cells ps with
      | none => rw [hf] at hv; cases hv
      | some out =>
        rw [hf] at hv; cases hv
        obtain ⟨out', q1, q2⟩ := fill_ok hp (zero_cells (ρ := ρ) hz) hf
        refine ⟨_, ?_, .agg q2⟩
        obtain ⟨hz1, -⟩ := zero_of (w := w) ok hz
        simp only [Instr.build, Sem.run_bind, hz1, Result.andThen_ok, under_of ok hu, size_eq ok hs]
        rw [q1]; rfl
    · cases hv
  · cases hv
end
end Go.Eng

/- The abstract evaluator: operations one by one. -/
namespace Go.Eng
section
variable {P : Program} {E : Env} {ρ : Ren} {s : St} {w : World}

theorem rep_rel {z : Array Value} (hz : flats z.toList = true) (n : Nat) (hz0 : 0 < n → 0 < z.size) : VRels ρ ((Array.range n).map (z[· % z.size]!)).toList ((Array.range n).map (z[· % z.size]!)).toList := by
  apply VRels.of_get rfl
  intro i v hv
  refine ⟨v, hv, ?_⟩
  simp only [Array.toList_map, List.getElem?_map, Array.toList_range] at hv
  by_cases hi : i < n
  · rw [List.getElem?_range hi] at hv
    simp only [Option.map_some, Option.some.injEq] at hv
    have hlt := Nat.mod_lt i (hz0 (by omega))
    have h1 : z[i % z.size]! = z[i % z.size] := by simp [hlt]
    obtain ⟨v', h2, h3⟩ := (VRels.of_flats ρ z.toList hz).get (i % z.size) z[i % z.size] (by simp [hlt])
    rw [Array.getElem?_toList, Array.getElem?_eq_getElem hlt] at h2
    cases h2
    rw [← hv, h1]; exact h3
  · rw [List.getElem?_eq_none (by simp; omega)] at hv
    cases hv
theorem flats_cells {v : Value} (h : flat v = true) : flats v.cells.toList = true := by
  cases v <;> first | (simpa [flat, Value.cells] using h) | (simp [Value.cells, flats]; exact h)
theorem exact_slice {ρ' : Ren} {L : Loc} {b n m : Nat} {c : Nat} (h : ρ' b m = some L) (hc : L.c = c) (k : Nat) : VRel ρ' (.slice (some ⟨b, 0, some m⟩) n (k + 1)) (.slice (some ⟨c, 0, none⟩) n k) := hc ▸ .slice _ _ h

theorem buildSliceV_ok (ok : E.Ok P) (h : Rel E ρ s w) {t : TypeId} {len : Nat} {ps ps' : List (Nat × Value)} {v : Value} {s' : St} (hp : PRels ρ ps ps') (hv : buildSliceV E s t len ps = some (v, s')) :
    VOk P E ρ s w (Instr.buildSlice t len ps'.toArray) v s' := by
  unfold buildSliceV at hv
  split at hv
  case h_2 => cases hv
  rename_i elem hu
  split at hv
  case h_2 => cases hv
  rename_i size z hs hz
  split at hv
  case isTrue => cases hv
  rename_i hc
  simp only at hv
  split at hv
  case h_2 => cases hv
  rename_i cells hf
  cases hv
  obtain ⟨hz1, hz2⟩ := zero_of (w := w) ok hz
  have hzs := zero_size hz hs
  have hbase : VRels ρ ((Array.range (len * size)).map ((if len * size = 0 then #[] else z.cells)[· % (if len * size = 0 then #[] else z.cells).size]!)).toList
      ((Array.range (len * size)).map ((if len * size = 0 then #[] else z.cells)[· % (if len * size = 0 then #[] else z.cells).size]!)).toList := by
    by_cases h0 : len * size = 0
    · rw [if_pos h0, h0]; simpa using VRels.nil
    · rw [if_neg h0]
      refine rep_rel (flats_cells hz2) _ (fun _ => ?_)
      rw [hzs]
      rcases Nat.eq_zero_or_pos size with hh | hh
      · rw [hh] at h0; exact absurd (Nat.mul_zero _) h0
      · exact hh
  obtain ⟨cells', q1, q2⟩ := fill_ok hp hbase hf
  obtain ⟨ρ', r1, r2, r3, L, r4, r5, -⟩ := oneRow_ok (P := P) (el := elem) (cs := cells.toList) (ca := cells'.toList) h true (by rw [List.take_of_length_le (by rw [q2.length_eq]; exact Nat.le_refl _)]; exact q2) (fun _ => q2.length_eq.symm)
  refine ⟨ρ', _, _, ?_, r2, r3, exact_slice r4 r5 _⟩
  have r1' : (newRow elem cells').run P w = _ := r1
  simp only [Instr.buildSlice, Sem.run_bind, under_of ok hu, Result.andThen_ok, size_eq ok hs]
  rw [if_neg hc]
  by_cases hn : len * size = 0
  · simp only [hn, if_true, Sem.run_bind, Sem.run_pure, Result.andThen_ok] at q1 ⊢
    rw [q1]
    simp only [Sem.run_bind, r1', Result.andThen_ok, Sem.run_pure]
  · simp only [hn, if_false, Sem.run_bind, hz1, Sem.run_pure, Result.andThen_ok] at q1 ⊢
    rw [q1]
    simp only [Sem.run_bind, r1', Result.andThen_ok, Sem.run_pure]

theorem makeSliceV_ok (ok : E.Ok P) (h : Rel E ρ s w) {t : TypeId} {l l' c c' v : Value} {s' : St} (hl : VRel ρ l l') (hcc : VRel ρ c c') (hv : makeSliceV E s t l c = some (v, s')) :
    VOk P E ρ s w (Instr.makeSlice t l' c') v s' := by
  unfold makeSliceV at hv
  split at hv
  case h_2 => cases hv
  rename_i elem kl li kc ci hu
  split at hv
  case h_2 => cases hv
  rename_i size z bytes hs hz hb
  split at hv
  case isFalse => cases hv
  rename_i hc
  obtain ⟨h0, h1, h2, h3⟩ := hc
  cases hl; cases hcc
  simp only at hv
  cases hv
  obtain ⟨hz1, hz2⟩ := zero_of (w := w) ok hz
  have hzs := zero_size hz hs
  cases hi : E.tt.get elem with
  | none => rw [hi] at hb; cases hb
  | some i =>
    rw [hi] at hb
    have hbi : i.bytes = bytes := by simpa using hb
    have hbase : VRels ρ ((Array.range (ci.toNat * size)).map ((if ci.toNat * size = 0 then #[] else z.cells)[· % (if ci.toNat * size = 0 then #[] else z.cells).size]!)).toList
        ((Array.range (ci.toNat * size)).map ((if ci.toNat * size = 0 then #[] else z.cells)[· % (if ci.toNat * size = 0 then #[] else z.cells).size]!)).toList := by
      by_cases h0 : ci.toNat * size = 0
      · rw [if_pos h0, h0]; simpa using VRels.nil
      · rw [if_neg h0]
        refine rep_rel (flats_cells hz2) _ (fun _ => ?_)
        rw [hzs]
        rcases Nat.eq_zero_or_pos size with hh | hh
        · rw [hh] at h0; exact absurd (Nat.mul_zero _) h0
        · exact hh
    obtain ⟨ρ', r1, r2, r3, L, r4, r5, -⟩ := oneRow_ok (P := P) (el := elem) h true (by rw [List.take_of_length_le (Nat.le_refl _)]; exact hbase) (fun _ => rfl)
    refine ⟨ρ', _, _, ?_, r2, r3, exact_slice r4 r5 _⟩
    have e1 := int_in li h0 (by omega)
    have e2 := int_in ci (by omega) (by omega)
    have e3 : (decide (ci < 0) || decide ((i.bytes : Int) * ci > 2 ^ 48)) = false := by
      rw [hbi]
      have : ¬ ci < 0 := by omega
      have h4 : ¬ ((bytes : Int) * ci > 2 ^ 48) := by omega
      simp only [this, decide_false, Bool.false_or, decide_eq_false_iff_not]
      exact h4
    have e4 : ((decide (ci < 0) || decide ((i.bytes : Int) * ci > 2 ^ 48)) || decide (li < 0) || decide (li > ci)) = false := by
      rw [e3]
      have a1 : ¬ li < 0 := by omega
      have a2 : ¬ li > ci := by omega
      simp [a1, a2]
    simp only [Instr.makeSlice, Sem.run_bind, under_of ok hu, Result.andThen_ok, asInt, asIntOf, Sem.run_pure, info_of ok hi, e1, e2]
    have hcond : ¬ (((decide (ci < 0) || decide ((i.bytes : Int) * ci > 2 ^ 48)) || decide (li < 0) || decide (li > ci)) = true) := by rw [e4]; simp
    rw [if_neg hcond]
    simp only [Sem.run_bind, run_askRoom, Result.andThen_ok, size_eq ok hs]
    have r1' := r1
    simp only [Array.toArray_toList] at r1'
    by_cases hn : ci.toNat * size = 0
    · simp only [hn, if_true, Sem.run_bind, Sem.run_pure, Result.andThen_ok] at r1' ⊢
      rw [r1']; rfl
    · simp only [hn, if_false, Sem.run_bind, hz1, Sem.run_pure, Result.andThen_ok] at r1' ⊢
      rw [r1']; rfl

theorem assertV_ok (ok : E.Ok P) {x x' v : Value} {ty asserted : TypeId} {b : Bool} (hx : VRel ρ x x') (hv : assertV E x asserted b = some v) :
    ∃ v', (Instr.typeAssert x' ty asserted b).run P w = .ok v' w ∧ VRel ρ v v' := by
  have hz : ∀ {v : Value}, (if b then (E.zero asserted).map fun z => Value.tuple #[z, .bool false] else none) = some v → ∃ z, b = true ∧ (zeroValue asserted).run P w = .ok z w ∧ v = .tuple #[z, .bool false] ∧ VRel ρ v v := by
    intro v hh
    split at hh
    · rename_i hb
      cases hzz : E.zero asserted with
      | none => rw [hzz] at hh; cases hh
      | some z =>
        rw [hzz] at hh; cases hh
        exact ⟨z, hb, (zero_of ok hzz).1, rfl, .tuple (.cons (zero_rel hzz) (.cons (.bool _) .nil))⟩
    · cases hh
  unfold assertV at hv
  split at hv
  · rename_i ms hu
    cases hx
    obtain ⟨z, rfl, h1, rfl, h2⟩ := hz hv
    exact ⟨_, by simp [Instr.typeAssert, under_of ok hu, h1], h2⟩
  · rename_i want t v0 hu
    cases hx
    rename_i v0' hv0
    split at hv
    · rename_i i hi
      split at hv
      · rename_i hm
        cases hv
        refine ⟨if b then .tuple #[.iface t v0', .bool true] else .iface t v0', ?_, ?_⟩
        · simp [Instr.typeAssert, under_of ok hu, info_of ok hi, hm]
        · cases b
          · exact .iface _ hv0
          · exact .tuple (.cons (.iface _ hv0) (.cons (.bool _) .nil))
      · rename_i m hm
        obtain ⟨z, rfl, h1, rfl, h2⟩ := hz hv
        exact ⟨_, by simp [Instr.typeAssert, under_of ok hu, info_of ok hi, hm, h1], h2⟩
    · cases hv
  · rename_i d hne hu
    cases hx
    obtain ⟨z, rfl, h1, rfl, h2⟩ := hz hv
    refine ⟨_, ?_, h2⟩
    simp only [Instr.typeAssert, Sem.run_bind, under_of ok hu, Result.andThen_ok]
    cases d <;> first | (simp [h1]; done) | exact absurd hu (by simpa using hne)
  · rename_i d t v0 hne hu
    cases hx
    rename_i v0' hv0
    split at hv
    · rename_i ht
      subst ht
      cases hv
      refine ⟨if b then .tuple #[v0', .bool true] else v0', ?_, ?_⟩
      · simp only [Instr.typeAssert, Sem.run_bind, under_of ok hu, Result.andThen_ok]
        cases d <;> first | (simp; done) | exact absurd hu (by simpa using hne)
      · cases b
        · exact hv0
        · exact .tuple (.cons hv0 (.cons (.bool _) .nil))
    · rename_i ht
      obtain ⟨z, rfl, h1, rfl, h2⟩ := hz hv
      refine ⟨_, ?_, h2⟩
      simp only [Instr.typeAssert, Sem.run_bind, under_of ok hu, Result.andThen_ok]
      cases d <;> first | (simp [h1, ht]; done) | exact absurd hu (by simpa using hne)
  · cases hv
end
end Go.Eng
