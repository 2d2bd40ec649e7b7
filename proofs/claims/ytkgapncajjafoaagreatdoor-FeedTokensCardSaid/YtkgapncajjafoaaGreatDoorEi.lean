/- The abstract evaluator of the model, part i: definitions and laws, of no program. -/
import Derived.Test.YtkgapncajjafoaaGreatDoorEh
set_option linter.all false
/- The evaluator for the kernel: regions that draw their order. -/
namespace Go.Eng
section
variable (E : Env) (N : Nat)
/-- An operation that looks only. -/
inductive VD where
  | mk (f : F → List Deferred → St → (Value → Out) → Out)
  | bad
noncomputable def VD.run (c : VD) (t : F) (d : List Deferred) (s : St) (k : Value → Out) : Out := @VD.rec (fun _ => Out) (fun f => f t d s k) none c
noncomputable def valOf (a : Option ANext) (k : Value → St → Out) : Out := match a with
  | some (.val v s) => k v s
  | _ => none
theorem valOf_some {a : Option ANext} {k r} (h : valOf a k = some r) : ∃ v s, a = some (.val v s) ∧ k v s = some r := by
  unfold valOf at h
  split at h
  · exact ⟨_, _, rfl, h⟩
  · cases h
noncomputable def vdS (o : Oper) : VD := match valC E o with
  | .mk f => .mk fun t _ s k => f t s k
  | .bad => match o.op with
    | .nilCheck x => match opd E x with
      | .val g => .mk fun t d s k => noNil (g t) (valOf (evalOp E ⟨t, N, d⟩ o s) fun v _ => k v) (k (g t))
      | .bad => .bad
    | .extract x i => match opd E x with
      | .val g => .mk fun t d s k => tupleK (g t) fun vs => nthK vs.toList i k
      | .bad => .bad
    | .call c => match c.callee, c.args.toList, c.argTypes[0]? with
      | .builtin .len, [x], some ty => match E.under ty, opd E x with
        | some (.slice _), .val g => .mk fun t _ s k => sliceK (g t) fun _ n _ => k (.int .i64 (.ofNat n))
        | _, _ => .mk fun t d s k => valOf (evalOp E ⟨t, N, d⟩ o s) fun v _ => k v
      | _, _, _ => .mk fun t d s k => valOf (evalOp E ⟨t, N, d⟩ o s) fun v _ => k v
    | _ => .mk fun t d s k => valOf (evalOp E ⟨t, N, d⟩ o s) fun v _ => k v
theorem vdS_some {o : Oper} {t d s k r} (h : (vdS E N o).run t d s k = some r) : ∃ v s', evalOp E ⟨t, N, d⟩ o s = some (.val v s') ∧ k v = some r := by
  have slow : ∀ (h : (valOf (evalOp E ⟨t, N, d⟩ o s) fun v _ => k v) = some r), ∃ v s', evalOp E ⟨t, N, d⟩ o s = some (.val v s') ∧ k v = some r := fun h => valOf_some h
  unfold vdS at h
  split at h
  · rename_i f hf
    obtain ⟨v, h1, h2⟩ := valC_ok (E := E) N o t d s k r (by rw [hf]; exact h)
    exact ⟨v, s, h1, h2⟩
  · obtain ⟨dst, op, ty, pos, aft, gd⟩ := o
    split at h
    · rename_i x hx
      simp only at hx
      subst hx
      split at h
      · rename_i g hg
        have he := opd_ok hg t N d
        have h : noNil (g t) (valOf (evalOp E ⟨t, N, d⟩ _ s) fun v _ => k v) (k (g t)) = some r := h
        cases hv : g t with
        | pointer a =>
          rw [hv] at h he
          cases a with
          | none => cases h
          | some a => exact ⟨_, s, by simp only [evalOp, he], h⟩
        | func f a b => rw [hv] at h; exact slow h
        | nilFunc => rw [hv] at h; cases h
        | nilIface => rw [hv] at h; cases h
        | _ => rw [hv] at h he; exact ⟨_, s, by simp only [evalOp, he], h⟩
      · cases h
    · rename_i x i hx
      simp only at hx
      subst hx
      split at h
      · rename_i g hg
        obtain ⟨vs, hv, h⟩ := tupleK_some h
        obtain ⟨v, h1, h⟩ := nthK_some h
        exact ⟨v, s, by simp only [evalOp, opd_ok hg, hv, h1], h⟩
      · cases h
    · rename_i c hx
      simp only at hx
      subst hx
      split at h
      · rename_i x ty hc ha ht
        split at h
        · rename_i el g hu hg
          obtain ⟨a, n, c', hs, h⟩ := sliceK_some h
          refine ⟨_, s, ?_, h⟩
          simp only [evalOp, callO, ha, evals, opd_ok hg, hc, builtinV, lenV, ht, hu, hs, Option.map_some]
          rfl
        · exact slow h
      · exact slow h
    · exact slow h
noncomputable def vdC (o : Oper) : VD := match o.op with
  | .fieldAddr ty x f => match E.under ty, opd E x with
    | some (.struct fields), .val g => match slot E fields f with
      | some off => .mk fun t _ _ k => pointerK (g t) fun a => someK a fun a => addrK a fun b o sp => k (.pointer (some ⟨b, Nat.add o off, sp⟩))
      | none => .bad
    | _, _ => .bad
  | .load ty a => match E.isAgg ty, E.size ty, opd E a with
    | some false, _, .val g => .mk fun t _ s k => pointerK (g t) fun a => someK a fun a => addrK a fun b o sp => someK sp fun hi => loadK b o hi s k
    | some true, some n, .val g => .mk fun t _ s k => pointerK (g t) fun a => someK a fun a => addrK a fun b o sp => someK sp fun hi => getK b s fun obj => cellsK obj fun cs _ wsz _ _ =>
        ifK (Nat.ble wsz hi) (ifK (Nat.ble (Nat.add o n) hi) (dropK cs o fun l => takeK l n fun l => k (.agg ⟨l⟩)))
    | _, _, _ => .bad
  | .indexAddr ty x i => match E.under ty, opd E x, opd E i with
    | some (.slice elem), .val g, .val gi => match E.size elem with
      | some size => .mk fun t _ _ k => sliceK (g t) fun a n _ => someK a fun a => intK (gi t) fun _ i => natK i fun i => ifK (Nat.ble (Nat.succ i) n) (addrK a fun b o sp => k (.pointer (some ⟨b, Nat.add o (Nat.mul i size), sp⟩)))
      | none => .bad
    | _, _, _ => vdS E N o
  | .binOp op ty x y _ => match E.under ty, opd E x, opd E y with
    | some (.int j), .val g, .val gy => match (kindC j : KC (AExit × Fr × St)), numC op j with
      | .mk kd, .mk f => match isShift op with
        | true => vdS E N o
        | false => .mk fun t _ _ k => intK (g t) fun j1 a => kd j1 (intK (gy t) fun j2 b => kd j2 (f a b k))
      | _, _ => .bad
    | _, _, _ => vdS E N o
  | .convert a b x => match E.under a, E.under b, opd E x with
    | some (.int _), some (.int j), .val g => .mk fun t _ _ k => intK (g t) fun _ n => @Int.rec (fun _ => Out) (fun m => @Bool.rec (fun _ => Out) (k (.int j (wrapI j (.ofNat m)))) (k (.int j (.ofNat m))) (Nat.blt m (limit j))) (fun m => k (.int j (wrapI j (.negSucc m)))) n
    | _, _, _ => vdS E N o
  | _ => vdS E N o
theorem vdC_some {o : Oper} {t d s k r} (h : (vdC E N o).run t d s k = some r) : ∃ v s', evalOp E ⟨t, N, d⟩ o s = some (.val v s') ∧ k v = some r := by
  obtain ⟨dst, op, ty, pos, aft, gd⟩ := o
  cases op <;> simp only [vdC] at h <;> try exact vdS_some E N h
  case fieldAddr ty x f =>
    split at h
    · rename_i fields g hu hg
      split at h
      · rename_i off hs
        obtain ⟨a, ha, h⟩ := pointerK_some h
        replace h := someK_some h; obtain ⟨a, rfl, h⟩ := h
        rw [addrK_eq] at h
        refine ⟨_, s, ?_, h⟩
        unfold slot at hs
        simp only [evalOp, opd_ok hg, fieldAddrV, hu, ha]
        split at hs
        · rename_i fd hfd
          rw [hfd]
          simp only
          split at hs
          · rename_i hany
            rw [if_pos hany]
            cases hs
            rfl
          · cases hs
        · cases hs
      · cases h
    · cases h
  case load ty a =>
    split at h
    · rename_i x1 g ha hg
      obtain ⟨a, ha', h⟩ := pointerK_some h
      replace h := someK_some h; obtain ⟨a, rfl, h⟩ := h
      rw [addrK_eq] at h
      obtain ⟨hi, hsp, h⟩ := someK_some h
      obtain ⟨cs, e, w, z, y, v, hobj, h1', h2', hv, h⟩ := loadK_some h
      refine ⟨v, s, ?_, h⟩
      have ht : (cs.drop a.off).take 1 = [v] := by
        rw [List.take_one, List.head?_drop, hv]; rfl
      simp only [evalOp, opd_ok hg, ha', loadV, ha, readN, hobj, hsp, h1', true_and, h2', if_true, ht]
    · rename_i n g ha hn hg
      obtain ⟨a, ha', h⟩ := pointerK_some h
      replace h := someK_some h; obtain ⟨a, rfl, h⟩ := h
      rw [addrK_eq] at h
      obtain ⟨hi, hsp, h⟩ := someK_some h
      obtain ⟨obj, hobj, h⟩ := getK_some h
      replace h := cellsK_some h; obtain ⟨cs, e, w, z, y, rfl, h⟩ := h
      obtain ⟨h1, h⟩ := ifK_some h
      obtain ⟨h2, h⟩ := ifK_some h
      rw [dropK_eq, takeK_eq] at h
      refine ⟨_, s, ?_, h⟩
      have h1' := Nat.le_of_ble_eq_true h1
      have h2' : a.off + n ≤ hi := Nat.le_of_ble_eq_true h2
      simp only [evalOp, opd_ok hg, ha', loadV, ha, hn, readN, hobj, hsp, h1', true_and, h2', if_true, Option.map_some]
    · cases h
  case convert a b x =>
    split at h
    · rename_i j0 j g h1 h2 hg
      obtain ⟨j1, n, hn, h⟩ := intK_some h
      have e : ∀ v, v = Value.int j (wrapI j n) → evalOp E ⟨t, N, d⟩ ⟨dst, .convert a b x, ty, pos, aft, gd⟩ s = some (.val v s) := by
        rintro v rfl
        simp only [evalOp, opd_ok hg, hn, convV, h1, h2]
      cases n with
      | ofNat m =>
        simp only at h
        rcases boolRec_some h with ⟨hb, h⟩ | ⟨hb, h⟩
        · exact ⟨_, s, e _ (by rw [wrapI_ofNat j m hb]), h⟩
        · exact ⟨_, s, e _ rfl, h⟩
      | negSucc m =>
        simp only at h
        exact ⟨_, s, e _ rfl, h⟩
    · exact vdS_some E N h
  case indexAddr ty x i =>
    split at h
    · rename_i elem g gi hu hg hgi
      split at h
      · rename_i size hsz
        obtain ⟨a, n, c, ha, h⟩ := sliceK_some h
        replace h := someK_some h; obtain ⟨a, rfl, h⟩ := h
        obtain ⟨j, i, hi, h⟩ := intK_some h
        replace h := natK_some h; obtain ⟨i, rfl, h⟩ := h
        obtain ⟨h1, h⟩ := ifK_some h
        rw [addrK_eq] at h
        refine ⟨_, s, ?_, h⟩
        have h1' : i < n := Nat.le_of_ble_eq_true h1
        simp only [evalOp, opd_ok hg, opd_ok hgi, indexAddrV, hu, ha, hi, hsz]
        rw [if_pos ⟨Int.natCast_nonneg _, Int.ofNat_lt.mpr h1'⟩]
        rfl
      · cases h
    · exact vdS_some E N h
  case binOp op ty x y _ =>
    split at h
    · rename_i j g gy hu hg hgy
      split at h
      · rename_i kd f hkd hf
        have hns := numC_ok op j hf
        split at h
        · exact vdS_some E N h
        obtain ⟨j1, a, ha, h⟩ := intK_some h
        replace h := kindC_some hkd h; obtain ⟨rfl, h⟩ := h
        obtain ⟨j2, b, hb, h⟩ := intK_some h
        replace h := kindC_some hkd h; obtain ⟨rfl, h⟩ := h
        obtain ⟨v, hv, h⟩ := hns _ _ _ _ h
        exact ⟨v, s, by simp only [evalOp, opd_ok hg, opd_ok hgy, binV, ha, hb, hv], h⟩
      · cases h
    · exact vdS_some E N h
/-- An operation that makes a block. -/
noncomputable def mkC (o : Oper) : F → List Deferred → St → (Value → St → Out) → Out := match o.op with
  | .alloc el => match E.zero el with
    | some z => fun _ _ s k => k (.pointer (some ⟨s.nx, 0, some z.cells.toList.length⟩)) (s.alloc (.cells z.cells.toList el z.cells.toList.length false true))
    | none => fun _ _ _ _ => none
  | .buildSlice ty len parts => match E.under ty with
    | some (.slice elem) => match E.size elem, E.zero elem with
      | some size, some z => match placed E (fun i => some (i * size, size)) parts.toList with
        | some ps => fun t _ s k => ifK (Nat.ble (len * size) 16777216) (fillK t (len * size) ps (zerosL z (len * size)) fun l => k (.slice (some ⟨s.nx, 0, some l.length⟩) len (Nat.succ len)) (s.alloc (.cells l elem l.length false true)))
        | none => fun _ _ _ _ => none
      | _, _ => fun _ _ _ _ => none
    | _ => fun _ _ _ _ => none
  | .convert a b x => match opd E x with
    | .val g => fun t _ s k => someK (convV E s a b (g t)) fun p => k p.1 p.2
    | .bad => fun _ _ _ _ => none
  | _ => fun t d s k => valOf (evalOp E ⟨t, N, d⟩ o s) k
theorem mkC_some {o : Oper} {t d s k r} (h : mkC E N o t d s k = some r) : ∃ v s', evalOp E ⟨t, N, d⟩ o s = some (.val v s') ∧ k v s' = some r := by
  obtain ⟨dst, op, ty, pos, aft, gd⟩ := o
  cases op <;> simp only [mkC] at h
  case alloc el =>
    cases hz : E.zero el with
    | some z => rw [hz] at h; exact ⟨_, _, by simp only [evalOp, hz]; rfl, h⟩
    | none => rw [hz] at h; cases h
  case buildSlice ty len parts =>
    cases hu : E.under ty with
    | none => rw [hu] at h; cases h
    | some u =>
    rw [hu] at h
    cases u <;> try (cases h; done)
    rename_i elem
    simp only at h
    cases hs : E.size elem with
    | none => rw [hs] at h; cases h
    | some size =>
    cases hz : E.zero elem with
    | none => rw [hs, hz] at h; cases h
    | some z =>
    rw [hs, hz] at h
    simp only at h
    cases hps : placed E (fun i => some (i * size, size)) parts.toList with
    | none => rw [hps] at h; cases h
    | some ps =>
    rw [hps] at h
    obtain ⟨hb, h⟩ := ifK_some h
    obtain ⟨vs, out, q1, q2, q3⟩ := fillK_some (N := N) (d := d) hps h (by simp [zerosL])
    refine ⟨_, _, ?_, q3⟩
    have hb := Nat.le_of_ble_eq_true hb
    have q2' : Instr.fill (fun i => some (i * size, size)) ((Array.range (len * size)).map ((if len * size = 0 then #[] else z.cells)[· % (if len * size = 0 then #[] else z.cells).size]!)) vs = some out := by
      rw [← q2]; rfl
    simp only [evalOp, q1, buildSliceV, hu, hs, hz]
    rw [if_neg (by omega)]
    simp only [q2']
    rfl
  case convert a b x =>
    cases hg : opd E x with
    | val g =>
      rw [hg] at h
      obtain ⟨⟨v, s'⟩, h1, h⟩ := someK_some h
      exact ⟨v, s', by simp only [evalOp, opd_ok hg, h1], h⟩
    | bad => rw [hg] at h; cases h
  all_goals exact valOf_some h

/-- The guard of an operation, decided: yes, or no. -/
noncomputable def wantK (ops : Array Oper) (o : Oper) (t : F) (no yes : Out) : Out := match o.guard with
  | none => yes
  | some (j, want) => match (ops[j]?).bind (·.dst) with
    | some i => isK ((getC i).get t) want no yes
    | none => no
theorem wantK_some {ops : Array Oper} {o : Oper} {t : F} {d no yes r} (h : wantK ops o t no yes = some r) : (wantedA ops ⟨t, N, d⟩ o = true ∧ yes = some r) ∨ (wantedA ops ⟨t, N, d⟩ o = false ∧ no = some r) := by
  unfold wantK at h
  unfold wantedA
  cases hg : o.guard with
  | none => rw [hg] at h; exact .inl ⟨rfl, h⟩
  | some g =>
    obtain ⟨j, want⟩ := g
    rw [hg] at h
    simp only at h ⊢
    unfold yieldedA
    cases hd : (ops[j]?).bind (·.dst) with
    | none => rw [hd] at h; exact .inr ⟨rfl, h⟩
    | some i =>
      rw [hd] at h
      simp only at h
      rw [getC_ok] at h
      simp only [Fr.tmp]
      generalize t.get i = q at h
      cases q <;> simp only [isK] at h <;> first | exact .inr ⟨rfl, h⟩ | skip
      rename_i b
      cases hb : b == want with
      | true => rw [hb] at h; exact .inl ⟨by simpa using hb, h⟩
      | false => rw [hb] at h; exact .inr ⟨by simpa using hb, h⟩

abbrev DK := F → St → List (Nat × Nat) → Out
inductive DC where
  | mk (f : DK → F → List Deferred → St → List (Nat × Nat) → Out)
noncomputable def DC.run (c : DC) (k : DK) (t : F) (d : List Deferred) (s : St) (made : List (Nat × Nat)) : Out := @DC.rec (fun _ => Out) (fun f => f k t d s made) c
noncomputable def stageC (ops : Array Oper) (k : Nat) : List (Nat × Nat × Nat) → DC
  | [] => .mk fun kk t _ s made => kk t s made
  | (i, est, _) :: rest =>
    bif Nat.beq est k then
      match ops[i]? with
      | none => .mk fun _ _ _ _ _ => none
      | some o => match putC N o.dst with
        | .mk p => match cls E o with
          | 0 => .mk fun kk t d s made => wantK ops o t (p undef t fun t => (stageC ops k rest).run kk t d s made) ((vdC E N o).run t d s fun v => p v t fun t => (stageC ops k rest).run kk t d s made)
          | 1 => .mk fun kk t d s made => wantK ops o t (p undef t fun t => (stageC ops k rest).run kk t d s made) (mkC E N o t d s fun v s' => someK (s'.h.get s.nx) fun obj => allocK obj s fun b s => p v t fun t => (stageC ops k rest).run kk t d s ((i, b) :: made))
          | _ => .mk fun kk t d s made => wantK ops o t (p undef t fun t => (stageC ops k rest).run kk t d s made) none
    else stageC ops k rest
theorem stageC_some (ops : Array Oper) (k : Nat) : ∀ {rest : List (Nat × Nat × Nat)} {kk t d s made r}, (stageC E N ops k rest).run kk t d s made = some r →
    ∃ t' s' made', stageF E ops k rest ⟨t, N, d⟩ s made = some (⟨t', N, d⟩, s', made') ∧ kk t' s' made' = some r
  | [], kk, t, d, s, made, r, h => ⟨t, s, made, rfl, h⟩
  | (i, est, lst) :: rest, kk, t, d, s, made, r, h => by
    simp only [stageC] at h
    simp only [stageF]
    cases he : Nat.beq est k with
    | false =>
      rw [he] at h
      simp only [Bool.false_eq_true, if_false]
      exact stageC_some ops k h
    | true =>
      rw [he] at h
      simp only [cond, if_true] at h ⊢
      cases ho : ops[i]? with
      | none => rw [ho] at h; cases h
      | some o =>
        rw [ho] at h
        simp only at h ⊢
        obtain ⟨p, hp⟩ := putC_ex (N := N) o.dst
        rw [hp] at h
        simp only at h
        have hskip : ∀ (h : (p undef t fun t => (stageC E N ops k rest).run kk t d s made) = some r), ∃ t' s' made', stageF E ops k rest ((⟨t, N, d⟩ : Fr).put o.dst undef) s made = some (⟨t', N, d⟩, s', made') ∧ kk t' s' made' = some r := by
          intro h
          rw [putC_mk hp _ _ d] at h
          rw [put_fr]
          exact stageC_some ops k h
        split at h
        · rename_i hc
          rcases wantK_some N (d := d) h with ⟨hw, h⟩ | ⟨hw, h⟩
          · rw [if_pos hw]
            obtain ⟨v, s', h1, h⟩ := vdC_some E N h
            rw [putC_mk hp _ _ d] at h
            rw [h1]
            simp only [hc]
            rw [put_fr]
            exact stageC_some ops k h
          · rw [if_neg (by rw [hw]; exact Bool.false_ne_true)]
            exact hskip h
        · rename_i hc
          rcases wantK_some N (d := d) h with ⟨hw, h⟩ | ⟨hw, h⟩
          · rw [if_pos hw]
            obtain ⟨v, s', h1, h⟩ := mkC_some E N h
            obtain ⟨obj, h2, h⟩ := someK_some h
            rw [allocK_eq, putC_mk hp _ _ d] at h
            rw [h1]
            simp only [hc, h2]
            rw [put_fr]
            exact stageC_some ops k h
          · rw [if_neg (by rw [hw]; exact Bool.false_ne_true)]
            exact hskip h
        · rcases wantK_some N (d := d) h with ⟨hw, h⟩ | ⟨hw, h⟩
          · cases h
          · rw [if_neg (by rw [hw]; exact Bool.false_ne_true)]
            exact hskip h

/-- Are two values one? Fast where they are common. -/
noncomputable def spotB (a b : Option Nat) : Bool := match a, b with
  | some x, some y => Nat.beq x y
  | none, none => true
  | _, _ => false
noncomputable def addrB (a b : Addr) : Bool := cond (Nat.beq a.block b.block) (cond (Nat.beq a.off b.off) (spotB a.spot b.spot) false) false
theorem addrB_eq {a b : Addr} (h : addrB a b = true) : a = b := by
  obtain ⟨b1, o1, s1⟩ := a
  obtain ⟨b2, o2, s2⟩ := b
  unfold addrB at h
  simp only at h
  cases h1 : Nat.beq b1 b2 <;> rw [h1] at h <;> first | cases h | skip
  simp only [cond] at h
  cases h2 : Nat.beq o1 o2 <;> rw [h2] at h <;> first | cases h | skip
  simp only at h
  have e1 := Nat.eq_of_beq_eq_true h1
  have e2 := Nat.eq_of_beq_eq_true h2
  subst e1 e2
  cases s1 <;> cases s2 <;> simp only [spotB] at h <;> first | rfl | cases h | (rw [Nat.eq_of_beq_eq_true h])
noncomputable def veqF (a b : Value) : Bool := match a, b with
  | .pointer (some x), .pointer (some y) => addrB x y
  | .slice (some x) n c, .slice (some y) m d => cond (addrB x y) (cond (Nat.beq n m) (Nat.beq c d) false) false
  | a, b => veq a b
theorem veqF_eq {a b : Value} (h : veqF a b = true) : veq a b = true := by
  unfold veqF at h
  split at h
  · rw [addrB_eq h]; simp [veq]
  · rename_i x n c y m d
    cases h1 : addrB x y <;> rw [h1] at h <;> first | cases h | skip
    simp only [cond] at h
    cases h2 : Nat.beq n m <;> rw [h2] at h <;> first | cases h | skip
    simp only at h
    rw [addrB_eq h1]; simp only [veq, h2, h, Bool.and_true, decide_true]
  · exact h
/-- Is this what its destination holds? -/
noncomputable def sameK (dst : Option Tmp) (v : Value) (t : F) (y : Out) : Out := match dst with
  | some i => bif Nat.blt i N then ifK (veqF v ((getC i).get t)) y else y
  | none => y
theorem sameK_some {dst v t d y r} (h : sameK N dst v t y = some r) : same ⟨t, N, d⟩ dst v = true ∧ y = some r := by
  unfold sameK at h
  unfold same
  cases dst with
  | none => exact ⟨rfl, h⟩
  | some i =>
    simp only at h ⊢
    cases hb : Nat.blt i N with
    | false => rw [hb] at h; exact ⟨rfl, h⟩
    | true =>
      rw [hb] at h
      simp only [cond] at h
      obtain ⟨h1, h2⟩ := ifK_some h
      rw [getC_ok] at h1
      exact ⟨by simp only [Bool.not_true, Bool.false_or, Fr.tmp]; exact veqF_eq h1, h2⟩
inductive GC where
  | mk (f : F → List Deferred → St → List (Nat × Nat) → Out → Out)
noncomputable def GC.run (c : GC) (t : F) (d : List Deferred) (s : St) (made : List (Nat × Nat)) (y : Out) : Out := @GC.rec (fun _ => Out) (fun f => f t d s made y) c
noncomputable def againC (ops : Array Oper) (k : Nat) : List (Nat × Nat × Nat) → GC
  | [] => .mk fun _ _ _ _ y => y
  | (i, est, lst) :: rest =>
    bif Nat.ble est k && Nat.ble k lst then
      match ops[i]? with
      | none => .mk fun _ _ _ _ _ => none
      | some o => match cls E o with
        | 0 => .mk fun t d s made y => wantK ops o t (sameK N o.dst undef t ((againC ops k rest).run t d s made y)) ((vdC E N o).run t d s fun v => sameK N o.dst v t ((againC ops k rest).run t d s made y))
        | _ => .mk fun t d s made y => wantK ops o t (sameK N o.dst undef t ((againC ops k rest).run t d s made y)) (ifK (againO E ⟨t, N, d⟩ s made i o) ((againC ops k rest).run t d s made y))
    else againC ops k rest
theorem againC_some (ops : Array Oper) (k : Nat) : ∀ {rest : List (Nat × Nat × Nat)} {t d s made y r}, (againC E N ops k rest).run t d s made y = some r → againF E ops k ⟨t, N, d⟩ s made rest = true ∧ y = some r
  | [], t, d, s, made, y, r, h => ⟨rfl, h⟩
  | (i, est, lst) :: rest, t, d, s, made, y, r, h => by
    simp only [againC] at h
    simp only [againF]
    cases he : (Nat.ble est k && Nat.ble k lst) with
    | false =>
      rw [he] at h
      obtain ⟨h1, h2⟩ := againC_some ops k h
      exact ⟨by simp [h1], h2⟩
    | true =>
      rw [he] at h
      simp only [cond, if_true] at h ⊢
      cases ho : ops[i]? with
      | none => rw [ho] at h; cases h
      | some o =>
        rw [ho] at h
        simp only at h ⊢
        have hskip : ∀ (h : (sameK N o.dst undef t ((againC E N ops k rest).run t d s made y)) = some r), (same ⟨t, N, d⟩ o.dst undef && againF E ops k ⟨t, N, d⟩ s made rest) = true ∧ y = some r := by
          intro h
          obtain ⟨h1, h⟩ := sameK_some N (d := d) h
          obtain ⟨h2, h⟩ := againC_some ops k h
          exact ⟨by simp [h1, h2], h⟩
        split at h
        · rename_i hc
          rcases wantK_some N (d := d) h with ⟨hw, h⟩ | ⟨hw, h⟩
          · rw [if_pos hw]
            obtain ⟨v, s', h1, h⟩ := vdC_some E N h
            obtain ⟨h2, h⟩ := sameK_some N (d := d) h
            obtain ⟨h3, h⟩ := againC_some ops k h
            exact ⟨by simp [againO, hc, h1, h2, h3], h⟩
          · rw [if_neg (by rw [hw]; exact Bool.false_ne_true)]
            exact hskip h
        · rcases wantK_some N (d := d) h with ⟨hw, h⟩ | ⟨hw, h⟩
          · rw [if_pos hw]
            obtain ⟨h2, h⟩ := ifK_some h
            obtain ⟨h3, h⟩ := againC_some ops k h
            exact ⟨by simp [h2, h3], h⟩
          · rw [if_neg (by rw [hw]; exact Bool.false_ne_true)]
            exact hskip h
end
end Go.Eng

/- The evaluator for the kernel: regions that draw their order, whole. -/
namespace Go.Eng
noncomputable def retK (N : Nat) : K := fun t d s => some (.normal, ⟨t, N, d⟩, s)
section
variable (E : Env) (N : Nat)
noncomputable def actC (ops : Array Oper) (i : Nat) : Cl := match ops[i]? with
  | some o => guardC N ops o (opG E N o)
  | none => .bad
noncomputable def actK (x : Out) (k : K) : Out :=
  @Option.rec _ (fun _ => Out) none (fun p => @Prod.rec _ _ (fun _ => Out) (fun e q => @AExit.rec (fun _ => Out) (@Prod.rec _ _ (fun _ => Out) (fun fr s => @Fr.rec (fun _ => Out) (fun t _ d => k t d s) fr) q) (fun _ => none) (fun _ => none) e) p) x
theorem actK_some {x : Out} {k : K} {r} (h : actK x k = some r) : ∃ fr s, x = some (.normal, fr, s) ∧ k fr.t fr.d s = some r := by
  cases x with
  | none => cases h
  | some y =>
    obtain ⟨e, fr, s⟩ := y
    cases e with
    | normal => cases fr; exact ⟨_, s, rfl, h⟩
    | jump c => cases h
    | panic c => cases h
theorem actC_some {ops : Array Oper} {i : Nat} {call : Call'} {round : Option Nat} {t d s fr s1} (h : (actC E N ops i).run call round (retK N) t d s = some (.normal, fr, s1)) :
    opsF E call round.isSome ops [i] ⟨t, N, d⟩ s = some (.normal, ⟨fr.t, N, fr.d⟩, s1) := by
  unfold actC at h
  simp only [opsF]
  cases ho : ops[i]? with
  | none => rw [ho] at h; cases h
  | some o =>
    rw [ho] at h
    simp only at h ⊢
    rcases guardC_ok E N ops o (opG_ok o) call round _ t d s _ h with ⟨hw, a, ha, hor⟩ | ⟨hw, t1, ht, hk⟩
    · rw [if_pos hw, ha]
      simp only
      rcases hor with ⟨t1, d1, s1', h1, h2⟩ | ⟨h1, h2⟩
      · rw [h1]
        cases h2; rfl
      · exact absurd rfl h2
    · rw [if_neg (by rw [hw]; exact Bool.false_ne_true), ht]
      cases hk; rfl
inductive DrC where
  | mk (f : Call' → Option Nat → K → F → List Deferred → St → List (Nat × Nat) → Out)
noncomputable def DrC.run (c : DrC) (call : Call') (round : Option Nat) (k : K) (t : F) (d : List Deferred) (s : St) (made : List (Nat × Nat)) : Out := @DrC.rec (fun _ => Out) (fun f => f call round k t d s made) c
noncomputable def stagesC (ops : Array Oper) (rest : List (Nat × Nat × Nat)) : List Nat → Nat → DrC
  | [], k => .mk fun _ _ kk t d s made => (stageC E N ops k rest).run (fun t s made => (againC E N ops k rest).run t d s made (kk t d s)) t d s made
  | i :: actors, k => .mk fun call round kk t d s made => (stageC E N ops k rest).run (fun t s made => (againC E N ops k rest).run t d s made
      (actK ((actC E N ops i).run call round (retK N) t d s) fun t d s => (stagesC ops rest actors (k + 1)).run call round kk t d s made)) t d s made
theorem stagesC_some {ops : Array Oper} {rest : List (Nat × Nat × Nat)} {call : Call'} {round : Option Nat} {kk : K} : ∀ {actors : List Nat} {k t d s made r}, (stagesC E N ops rest actors k).run call round kk t d s made = some r →
    ∃ t1 d1 s1, stagesF E call round.isSome ops rest actors k ⟨t, N, d⟩ s made = some (.normal, ⟨t1, N, d1⟩, s1) ∧ kk t1 d1 s1 = some r
  | [], k, t, d, s, made, r, h => by
    obtain ⟨t', s', made', h1, h⟩ := stageC_some E N ops k h
    obtain ⟨h2, h⟩ := againC_some E N ops k h
    exact ⟨t', d, s', by rw [stagesF]; simp only [h1, h2, if_true], h⟩
  | i :: actors, k, t, d, s, made, r, h => by
    obtain ⟨t', s', made', h1, h⟩ := stageC_some E N ops k h
    obtain ⟨h2, h⟩ := againC_some E N ops k h
    obtain ⟨fr, s2, h3, h⟩ := actK_some h
    have h4 := actC_some E N h3
    obtain ⟨t1, d1, s1, h5, h6⟩ := stagesC_some h
    refine ⟨t1, d1, s1, ?_, h6⟩
    rw [stagesF]
    simp only [h1, h2, if_true, h4]
    exact h5
/-! ### the plan, reckoned with less work -/
/-- Operations with their numbers and what they wait for. -/
noncomputable def zip3 (ops : List Oper) : List Nat → Nat → List (Oper × Nat × Nat) :=
  @List.rec Oper (fun _ => List Nat → Nat → List (Oper × Nat × Nat)) (fun _ _ => []) (fun o _ ih anc i => @List.rec Nat (fun _ => List (Oper × Nat × Nat)) ((o, i, 0) :: ih [] (Nat.succ i)) (fun a as _ => (o, i, a) :: ih as (Nat.succ i)) anc) ops
theorem zip3_eq : ∀ (ops : List Oper) (anc : List Nat) (i : Nat), zip3 ops anc i = (ops.zipIdx i).map fun p => (p.1, p.2, anc.getD (p.2 - i) 0)
  | [], anc, i => rfl
  | o :: ops, anc, i => by
    have key : ∀ (anc' : List Nat) , (∀ j, anc'.getD j 0 = anc.getD (j + 1) 0) → (ops.zipIdx (i + 1)).map (fun p => (p.1, p.2, anc'.getD (p.2 - (i + 1)) 0)) = (ops.zipIdx (i + 1)).map fun p => (p.1, p.2, anc.getD (p.2 - i) 0) := by
      intro anc' h
      apply List.map_congr_left
      rintro ⟨p, q⟩ hm
      have := List.le_snd_of_mem_zipIdx hm
      simp only at this ⊢
      rw [h]
      have e : q - (i + 1) + 1 = q - i := by omega
      rw [e]
    cases anc with
    | nil =>
      have e : zip3 (o :: ops) [] i = (o, i, 0) :: zip3 ops [] (i + 1) := rfl
      rw [e, zip3_eq ops [] (i + 1), List.zipIdx_cons, List.map_cons, key [] (by intro j; simp)]
      simp
    | cons a as =>
      have e : zip3 (o :: ops) (a :: as) i = (o, i, a) :: zip3 ops as (i + 1) := rfl
      rw [e, zip3_eq ops as (i + 1), List.zipIdx_cons, List.map_cons, key as (by intro j; simp)]
      simp
noncomputable def bitB (a j : Nat) : Bool := Nat.beq (Nat.mod (Nat.shiftRight a j) 2) 1
theorem bitB_eq (a j : Nat) : bitB a j = a.testBit j := by
  unfold bitB
  rw [Nat.testBit_eq_decide_div_mod_eq]
  have : Nat.mod (Nat.shiftRight a j) 2 = a / 2 ^ j % 2 := by
    show (a >>> j) % 2 = _
    rw [Nat.shiftRight_eq_div_pow]
  rw [this]
  cases h : Nat.beq (a / 2 ^ j % 2) 1 with
  | true => simp [Nat.eq_of_beq_eq_true h]
  | false => simp [Nat.ne_of_beq_eq_false h]
noncomputable def andB (a b : Bool) : Bool := @Bool.rec (fun _ => Bool) false b a
noncomputable def orB (a b : Bool) : Bool := @Bool.rec (fun _ => Bool) b true a
noncomputable def notB (a : Bool) : Bool := @Bool.rec (fun _ => Bool) true false a
theorem andB_eq (a b : Bool) : andB a b = (a && b) := by cases a <;> rfl
theorem orB_eq (a b : Bool) : orB a b = (a || b) := by cases a <;> rfl
theorem notB_eq (a : Bool) : notB a = !a := by cases a <;> rfl
noncomputable def anyB {α : Type} (f : α → Bool) (l : List α) : Bool := @List.rec α (fun _ => Bool) false (fun a _ ih => @Bool.rec (fun _ => Bool) ih true (f a)) l
theorem anyB_eq {α : Type} (f : α → Bool) : ∀ l : List α, anyB f l = l.any f
  | [] => rfl
  | a :: l => by
    have e : anyB f (a :: l) = @Bool.rec (fun _ => Bool) (anyB f l) true (f a) := rfl
    rw [e, anyB_eq f l, List.any_cons]
    cases f a <;> rfl
/-- The temporaries that an operation reads. -/
noncomputable def tmpsL (l : List Operand) : List Nat := @List.rec Operand (fun _ => List Nat) [] (fun x _ ih => @Operand.rec (fun _ => List Nat) (fun t => t :: ih) (fun _ => ih) (fun _ => ih) (fun _ => ih) x) l
theorem tmpsL_eq (t : Nat) : ∀ l : List Operand, anyB (fun u => Nat.beq u t) (tmpsL l) = l.any fun | .tmp u => Nat.beq u t | _ => false
  | [] => rfl
  | x :: l => by
    rw [List.any_cons, ← tmpsL_eq t l]
    cases x <;> first | rfl | skip
    rename_i u
    have e1 : anyB (fun u => Nat.beq u t) (tmpsL (.tmp u :: l)) = @Bool.rec (fun _ => Bool) (anyB (fun u => Nat.beq u t) (tmpsL l)) true (Nat.beq u t) := rfl
    rw [e1]
    show _ = (Nat.beq u t || _)
    cases Nat.beq u t <;> rfl
noncomputable def readsB (t : Nat) (o : Oper) : Bool := anyB (fun u => Nat.beq u t) (tmpsL o.op.operands.toList)
theorem readsB_eq (t : Nat) (o : Oper) : readsB t o = reads t o := tmpsL_eq t _
noncomputable def clobB (l : List (Oper × Nat × Nat)) (o : Oper) (j : Nat) : Bool := match o.dst with
  | some t => anyB (fun p => @Bool.rec (fun _ => Bool) false (notB (bitB p.2.2 j)) (readsB t p.1)) l
  | none => false
theorem clobB_eq (anc : Array Nat) (l : List (Oper × Nat)) (o : Oper) (j : Nat) : clobB (l.map fun p => (p.1, p.2, anc.getD p.2 0)) o j = clobbers anc l o j := by
  unfold clobB clobbers
  cases o.dst with
  | none => rfl
  | some t =>
    simp only
    rw [anyB_eq, List.any_map]
    congr 1
    funext p
    simp only [Function.comp]
    rw [bitB_eq, readsB_eq, notB_eq]
    cases reads t p.1 <;> rfl
noncomputable def actsB (l m : List (Oper × Nat × Nat)) : List Nat := @List.rec (Oper × Nat × Nat) (fun _ => List Nat) [] (fun p _ ih => @Bool.rec (fun _ => List Nat) ih (p.2.1 :: ih) (@Bool.rec (fun _ => Bool) (clobB l p.1 p.2.1) true (Nat.beq (cls E p.1) 2))) m
theorem actsB_eq (anc : Array Nat) (l : List (Oper × Nat)) : ∀ m : List (Oper × Nat), actsB E (l.map fun p => (p.1, p.2, anc.getD p.2 0)) (m.map fun p => (p.1, p.2, anc.getD p.2 0)) = m.filterMap fun (o, i) => if cls E o == 2 || clobbers anc l o i then some i else none
  | [] => rfl
  | p :: m => by
    have e : actsB E (l.map fun p => (p.1, p.2, anc.getD p.2 0)) ((p :: m).map fun p => (p.1, p.2, anc.getD p.2 0)) =
      @Bool.rec (fun _ => List Nat) (actsB E (l.map fun p => (p.1, p.2, anc.getD p.2 0)) (m.map fun p => (p.1, p.2, anc.getD p.2 0))) (p.2 :: actsB E (l.map fun p => (p.1, p.2, anc.getD p.2 0)) (m.map fun p => (p.1, p.2, anc.getD p.2 0)))
        (@Bool.rec (fun _ => Bool) (clobB (l.map fun p => (p.1, p.2, anc.getD p.2 0)) p.1 p.2) true (Nat.beq (cls E p.1) 2)) := rfl
    rw [e, actsB_eq anc l m, clobB_eq]
    have hb : Nat.beq (cls E p.1) 2 = (cls E p.1 == 2) := by
      cases h : Nat.beq (cls E p.1) 2 with
      | true => simp [Nat.eq_of_beq_eq_true h]
      | false => simp [Nat.ne_of_beq_eq_false h]
    rw [hb, List.filterMap_cons]
    cases h1 : (cls E p.1 == 2) <;> cases h2 : clobbers anc l p.1 p.2 <;> simp [h1, h2]
theorem ok3_eq (anc : Array Nat) (l : List (Oper × Nat)) : True := trivial

/-- As 'plan', with less work. -/
noncomputable def plan2 (ops : Array Oper) : Plan :=
  let anc := Region.before ops
  let l := ops.toList.zipIdx
  let actors := actsB E (zip3 ops.toList anc.toList 0) (zip3 ops.toList anc.toList 0)
  let m := actors.length
  let rest := l.filterMap fun (_, i) => if actors.contains i then none else
    some (i, (actors.filter fun a => (anc.getD i 0).testBit a).length, (actors.findIdx? fun a => (anc.getD a 0).testBit i).getD m)
  { actors, rest, ok := chain anc actors && l.all fun (o, i) => okAt anc l o i }
theorem plan2_eq (ops : Array Oper) : plan2 E ops = plan E ops := by
  have hz : zip3 ops.toList (Region.before ops).toList 0 = ops.toList.zipIdx.map fun p => (p.1, p.2, (Region.before ops).getD p.2 0) := by
    rw [zip3_eq]
    apply List.map_congr_left
    intro p _
    simp only [Nat.sub_zero]
    rw [Array.getD_eq_getD_getElem?, List.getD_eq_getElem?_getD, Array.getElem?_toList]
  have ha : actsB E (zip3 ops.toList (Region.before ops).toList 0) (zip3 ops.toList (Region.before ops).toList 0) = acts E (Region.before ops) ops.toList.zipIdx := by
    rw [hz, actsB_eq]; rfl
  unfold plan2 plan
  simp only [ha]
noncomputable def drawC (ops : Array Oper) : Cl := match (plan2 E ops).ok with
  | true => .mk fun call round k t d s => (stagesC E N ops (plan2 E ops).rest (plan2 E ops).actors 0).run call round k t d s []
  | false => .bad
theorem drawC_some {ops : Array Oper} {call : Call'} {round : Option Nat} {k : K} {t d s r} (h : (drawC E N ops).run call round k t d s = some r) :
    ∃ t1 d1 s1, regionF E call round.isSome ops true ⟨t, N, d⟩ s = some (.normal, ⟨t1, N, d1⟩, s1) ∧ k t1 d1 s1 = some r := by
  unfold drawC at h
  rw [plan2_eq] at h
  split at h
  · rename_i hok
    obtain ⟨t1, d1, s1, h1, h2⟩ := stagesC_some E N h
    refine ⟨t1, d1, s1, ?_, h2⟩
    simp only [regionF, if_true]
    rw [if_pos hok]
    exact h1
  · cases h
end
end Go.Eng

/- The evaluator for the kernel: what a compiled piece of code answers. -/
namespace Go.Eng
section
variable {P : Program} {E : Env}
/-- What a compiled piece of work answers of the machine's items. -/
def CSpec (P : Program) (E : Env) (fn : FuncId) (N : Nat) (items : List Item) (c : Cl) : Prop :=
  ∀ (call : Call'), (∀ a s r, call a s = some r → CallOk P E a s r) → ∀ (round : Option Nat) (k : K) t d s r, c.run call round k t d s = some r →
    (∃ t1 d1 s1, From P E ⟨fn, round⟩ items ⟨t, N, d⟩ s (.normal, ⟨t1, N, d1⟩, s1) ∧ k t1 d1 s1 = some r) ∨ (From P E ⟨fn, round⟩ items ⟨t, N, d⟩ s r ∧ r.1 ≠ .normal)

/-- Operations in a row. -/
noncomputable def regC (E : Env) (N : Nat) (ops : Array Oper) : List Oper → Cl
  | [] => .mk fun _ _ k t d s => k t d s
  | o :: os => seqC (guardC N ops o (opG E N o)) (regC E N ops os)
theorem regC_ops (E : Env) (N : Nat) (ops : Array Oper) (call : Call') (round : Option Nat) : ∀ (idxs : List Nat) (os : List Oper), idxs.map (ops[·]?) = os.map some → ∀ (k : K) t d s r, (regC E N ops os).run call round k t d s = some r →
    (∃ t1 d1 s1, opsF E call round.isSome ops idxs ⟨t, N, d⟩ s = some (.normal, ⟨t1, N, d1⟩, s1) ∧ k t1 d1 s1 = some r) ∨ (opsF E call round.isSome ops idxs ⟨t, N, d⟩ s = some r ∧ r.1 ≠ .normal)
  | [], os, he, k, t, d, s, r, h => by
    cases os with
    | cons => simp at he
    | nil => exact .inl ⟨t, d, s, rfl, h⟩
  | i :: idxs, os, he, k, t, d, s, r, h => by
    cases os with
    | nil => simp at he
    | cons o os =>
      simp only [List.map_cons, List.cons.injEq] at he
      obtain ⟨ho, he⟩ := he
      rw [regC, seqC_run] at h
      simp only [opsF, ho]
      rcases guardC_ok E N ops o (opG_ok o) call round _ t d s r h with ⟨hw, a, ha, hor⟩ | ⟨hw, t1, ht, hk⟩
      · rw [if_pos hw, ha]
        simp only
        rcases hor with ⟨t1, d1, s1, h1, h2⟩ | ⟨h1, h2⟩
        · rw [h1]
          exact regC_ops E N ops call round idxs os he k t1 d1 s1 r h2
        · rw [h1]
          obtain ⟨e, fr, s'⟩ := r
          cases e with
          | normal => exact absurd rfl h2
          | jump c => exact .inr ⟨rfl, h2⟩
          | panic c => exact .inr ⟨rfl, h2⟩
      · rw [if_neg (by rw [hw]; exact Bool.false_ne_true), ht]
        exact regC_ops E N ops call round idxs os he k t1 d s r hk
theorem regC_ok (ok : E.Ok P) (fn : FuncId) (N : Nat) (ops : Array Oper) : CSpec P E fn N [.inRegion ops (List.range ops.size)] (regC E N ops ops.toList) := by
  intro call hcall round k t d s r h
  have he : (List.range ops.size).map (ops[·]?) = ops.toList.map some := by
    apply List.ext_getElem?
    intro i
    simp only [List.getElem?_map]
    by_cases hi : i < ops.size
    · rw [List.getElem?_range hi]; simp [hi]
    · rw [List.getElem?_eq_none (by simp; omega), List.getElem?_eq_none (by simp; omega)]; rfl
  rcases regC_ops E N ops call round _ _ he k t d s r h with ⟨t1, d1, s1, h1, h2⟩ | ⟨h1, h2⟩
  · exact .inl ⟨t1, d1, s1, opsF_ok ok hcall (ctx := ⟨fn, round⟩) _ h1, h2⟩
  · exact .inr ⟨opsF_ok ok hcall (ctx := ⟨fn, round⟩) _ h1, h2⟩
end
end Go.Eng

/- The evaluator for the kernel: code. -/
namespace Go.Eng
section
variable (E : Env) (fn : FuncId) (N : Nat)
/-- What follows a block's end, or a jump out of it. -/
noncomputable def backK (k : K) (q : Fr × St) : Out := @Prod.rec Fr St (fun _ => Out) (fun fr s => @Fr.rec (fun _ => Out) (fun t n d => @Bool.rec (fun _ => Out) none (k t d s) (Nat.beq n N)) fr) q
noncomputable def exitK (id : Nat) (k : K) (c : Code) (q : Fr × St) : Out := match c with
  | .exit i => @Bool.rec (fun _ => Out) (some (.jump (.exit i), q)) (backK N k q) (Nat.beq i id)
  | c => some (.jump c, q)
noncomputable def blockK (id : Nat) (k : K) (r : Out) : Out :=
  @Option.rec _ (fun _ => Out) none (fun p => @Prod.rec _ _ (fun _ => Out) (fun e q => @AExit.rec (fun _ => Out) (backK N k q) (fun c => exitK N id k c q) (fun c => some (.panic c, q)) e) p) r
noncomputable def rangeK (k : K) (r : Out) : Out :=
  match r with
  | some (.normal, fr, s) => bif Nat.beq fr.n N then k fr.t fr.d s else none
  | r => r
noncomputable def scopeK (whole : Code) (k : K) (again : Code → K) (r : Out) : Out :=
  match r with
  | some (.normal, fr, s) => bif Nat.beq fr.n N then k fr.t fr.d s else none
  | some (.jump (.goto l), fr, s) => match findLabel whole l with
    | some rest => bif Nat.beq fr.n N then again rest fr.t fr.d s else none
    | none => some (.jump (.goto l), fr, s)
  | r => r

/-- Code that jumps only. -/
def jumpX : Ctx → Code → Fr → St → Out := fun _ c fr s => match c with
  | .ret => some (.jump .ret, fr, s)
  | .exit i => some (.jump (.exit i), fr, s)
  | .goto l => some (.jump (.goto l), fr, s)
  | _ => none

/-- A loop's block, taken apart. -/
noncomputable def loopO {β : Type} (o : AObj) (f : LoopState → Option Code → FuncId → F → Nat → List Tmp → Code → Code → Nat → Option β) : Option β :=
  @AObj.rec (fun _ => Option β) (fun _ _ _ _ _ => none) (fun _ _ => none) (fun _ _ => none) (fun _ _ _ _ => none) f (fun _ => none) o
theorem loopO_some {β : Type} {o : AObj} {f} {r : β} (h : loopO o f = some r) : ∃ a1 a2 a3 a4 a5 a6 a7 a8 a9, o = .loop a1 a2 a3 a4 a5 a6 a7 a8 a9 ∧ f a1 a2 a3 a4 a5 a6 a7 a8 a9 = some r := by
  cases o <;> first | exact ⟨_, _, _, _, _, _, _, _, _, rfl, h⟩ | cases h
noncomputable def rangeBack (call : Call') (round : Option Nat) (k : K) (t : F) (md : List Deferred) (l : Nat) (x : Option (AEnd × St)) : Out :=
  resK x (fun _ s' => getK l s' fun obj => loopO obj fun st pending fn' n1 n2 ps as bo de => @ite _ (decide (st = .busy) = true) _ none
      (putK l (.loop .exhausted pending fn' n1 n2 ps as bo de) s' fun s' => match pending with
        | none => k t md s'
        | some c => jumpX ⟨fn, round⟩ c ⟨t, N, md⟩ s'))
    (fun chain s' => some (.panic chain, ⟨t, N, md⟩, s'))
noncomputable def rangeGo (g : F → Value) (params : Array Tmp) (assign body : Code) (call : Call') (round : Option Nat) (k : K) (t : F) (d : List Deferred) (d' : Nat) (mark : List Deferred) (s : St) : Out :=
  allocK (.loop .ready none fn t N params.toList assign body d') s fun l s => fnK (g t) none (fun gf fi ca => ifK (bodyB E gf)
    (rangeBack fn N call round k t (mark ++ d) l (call (.enter gf (fi ++ ([.func (.yield l) #[] #[]] ++ ca))) s))) (fun _ _ => none)
/-- A range over a function: as rangeFuncF, with the function and the frame's size laid in. -/
noncomputable def rangeC (f : Operand) (params : Array Tmp) (assign body : Code) : Cl := match opd E f with
  | .bad => .bad
  | .val g => .mk fun call round k t d s => match round with
    | some l => getK l s fun obj => loopO obj fun _ _ _ _ _ _ _ _ d' => rangeGo E fn N g params assign body call round k t d d' [] s
    | none => allocK (.deferred (some [])) s fun b s => rangeGo E fn N g params assign body call round k t d b [{ target := .collected b, args := #[] }] s

noncomputable def loopK (c : Cl) (call : Call') (round : Option Nat) (n : Nat) : K :=
  @Nat.rec (fun _ => K) (fun _ _ _ => none) (fun _ ih t d s => c.run call round ih t d s) n
noncomputable def scopeR (comp : Code → Cl) (whole : Code) (call : Call') (round : Option Nat) (k : K) (n : Nat) : Code → K :=
  @Nat.rec (fun _ => Code → K) (fun _ _ _ _ => none) (fun _ ih c t d s => scopeK N whole k ih ((comp c).run call round (retK N) t d s)) n

/-- Code, compiled; the first number: how deep. -/
noncomputable def comp : Nat → Code → Cl
  | 0, _ => .bad
  | m + 1, c => match c with
    | .skip | .label _ => .mk fun _ _ k t d s => k t d s
    | .ret => .mk fun _ _ _ t d s => some (.jump .ret, ⟨t, N, d⟩, s)
    | .exit i => .mk fun _ _ _ t d s => some (.jump (.exit i), ⟨t, N, d⟩, s)
    | .goto l => .mk fun _ _ _ t d s => some (.jump (.goto l), ⟨t, N, d⟩, s)
    | .seq a b => seqC (comp m a) (comp m b)
    | .cond x a b => match opd E x with
      | .val g => condC g (comp m a) (comp m b)
      | .bad => .bad
    | .block id c => .mk fun call round k t d s => blockK N id k ((comp m c).run call round (retK N) t d s)
    | .loop c => .mk fun call round _ t d s => loopK (comp m c) call round 100000 t d s
    | .scope whole => .mk fun call round k t d s => scopeR N (comp m) whole call round k 100000 whole t d s
    | .rangeFunc f ps a b => rangeC E fn N f ps a b
    | .region _ ops draw => bif draw then drawC E N ops else regC E N ops ops.toList
    | .refuse _ => .bad
end

section
variable {P : Program} {E : Env}
theorem From.cond {ctx : Ctx} {c : Operand} {a b : Code} {fr : Fr} {s : St} {r : AExit × Fr × St}
    {t : Bool} (hc : eval E fr c = some (.bool t)) (hr : From P E ctx [.code (if t then a else b)] fr s r) : From P E ctx [.code (.cond c a b)] fr s r := by
  intro ρ w tmps defers fn kind round k cs h hf hx
  have hv := eval_ok h hf.t hc
  have hcc : cev tmps c = .bool t := by
    generalize cev tmps c = q at hv
    cases hv; rfl
  obtain ⟨ρ', w', tmps', defers', q1, q2, q3, q4⟩ := hr ρ w tmps defers fn kind round k cs h hf hx
  exact ⟨ρ', w', tmps', defers', q1, q2, q3, q4.of_steps (.one (st_cond hcc))⟩

/-- One outcome, as an evaluator. -/
noncomputable def pointX (ctx : Ctx) (c : Code) (fr : Fr) (s : St) (r : AExit × Fr × St) : Ctx → Code → Fr → St → Out :=
  fun ctx' c' fr' s' => @ite _ (ctx' = ctx ∧ c' = c ∧ fr' = fr ∧ s' = s) (Classical.propDecidable _) (some r) none
theorem pointX_at (ctx : Ctx) (c : Code) (fr : Fr) (s : St) (r : AExit × Fr × St) : pointX ctx c fr s r ctx c fr s = some r := by
  unfold pointX; rw [if_pos ⟨rfl, rfl, rfl, rfl⟩]
theorem pointX_ok {ctx : Ctx} {c : Code} {fr : Fr} {s : St} {r : AExit × Fr × St} (h : From P E ctx [.code c] fr s r) :
    ∀ ctx' c' fr' s' r', pointX ctx c fr s r ctx' c' fr' s' = some r' → From P E ctx' [.code c'] fr' s' r' := by
  intro ctx' c' fr' s' r' hr
  unfold pointX at hr
  split at hr
  · rename_i hh
    obtain ⟨rfl, rfl, rfl, rfl⟩ := hh
    cases hr; exact h
  · cases hr
theorem jumpX_ok : ∀ ctx c fr s r, jumpX ctx c fr s = some r → From P E ctx [.code c] fr s r := by
  intro ctx c fr s r hr
  cases c <;> simp only [jumpX] at hr <;> cases hr
  case ret => exact From.jumps trivial
  case exit i => exact From.jumps fun k => by simp
  case goto l => exact From.jumps fun k => by simp

/-- What a piece of work that comes back at its end answers. -/
theorem CSpec.back {fn : FuncId} {N : Nat} {items : List Item} {c : Cl} (h : CSpec P E fn N items c) {call : Call'} (hcall : ∀ a s r, call a s = some r → CallOk P E a s r) {round : Option Nat} {t d s r}
    (hr : c.run call round (retK N) t d s = some r) : From P E ⟨fn, round⟩ items ⟨t, N, d⟩ s r := by
  rcases h call hcall round _ t d s r hr with ⟨t1, d1, s1, h1, h2⟩ | ⟨h1, -⟩
  · cases h2; exact h1
  · exact h1

theorem loopK_ok {fn : FuncId} {N : Nat} {c : Code} {cl : Cl} (h : CSpec P E fn N [.code c] cl) {call : Call'} (hcall : ∀ a s r, call a s = some r → CallOk P E a s r) {round : Option Nat} :
    ∀ n t d s r, loopK cl call round n t d s = some r → From P E ⟨fn, round⟩ [.code c, .inLoop c] ⟨t, N, d⟩ s r ∧ r.1 ≠ .normal
  | 0, t, d, s, r, hr => by cases hr
  | n + 1, t, d, s, r, hr => by
    have hr' : cl.run call round (loopK cl call round n) t d s = some r := hr
    rcases h call hcall round _ t d s r hr' with ⟨t1, d1, s1, h1, h2⟩ | ⟨h1, h2⟩
    · obtain ⟨h3, h4⟩ := loopK_ok h hcall n _ _ _ _ h2
      exact ⟨h1.andThen (h3.steps (fun _ _ _ _ _ _ _ _ => .one st_inLoop)), h4⟩
    · exact ⟨h1.leaves h2 (fun _ _ _ => rfl) (fun _ _ _ => rfl), h2⟩

theorem fr_eta {fr : Fr} {N : Nat} (h : Nat.beq fr.n N = true) : fr = ⟨fr.t, N, fr.d⟩ := by
  cases fr
  simp only at h
  rw [Nat.eq_of_beq_eq_true h]

theorem scopeR_ok {fn : FuncId} {N : Nat} {comp : Code → Cl} (h : ∀ c, CSpec P E fn N [.code c] (comp c)) {whole : Code} {call : Call'} (hcall : ∀ a s r, call a s = some r → CallOk P E a s r) {round : Option Nat} {k : K} :
    ∀ n c t d s r, scopeR N comp whole call round k n c t d s = some r →
      (∃ t1 d1 s1, From P E ⟨fn, round⟩ [.code c, .inScope whole] ⟨t, N, d⟩ s (.normal, ⟨t1, N, d1⟩, s1) ∧ k t1 d1 s1 = some r) ∨ (From P E ⟨fn, round⟩ [.code c, .inScope whole] ⟨t, N, d⟩ s r ∧ r.1 ≠ .normal)
  | 0, c, t, d, s, r, hr => by cases hr
  | n + 1, c, t, d, s, r, hr => by
    have hr' : scopeK N whole k (scopeR N comp whole call round k n) ((comp c).run call round (retK N) t d s) = some r := hr
    cases ha : (comp c).run call round (retK N) t d s with
    | none => rw [ha] at hr'; cases hr'
    | some r1 =>
      rw [ha] at hr'
      have h1 := (h c).back hcall ha
      obtain ⟨e1, fr1, s1⟩ := r1
      cases e1 with
      | normal =>
        simp only [scopeK] at hr'
        cases hb : Nat.beq fr1.n N with
        | false => rw [hb] at hr'; cases hr'
        | true =>
          rw [hb] at hr'
          rw [fr_eta hb] at h1
          have hx := scopeF_ok (P := P) (E := E) (pointX_ok h1) (whole := whole) 1 (ctx := ⟨fn, round⟩) (c := c) (fr := ⟨t, N, d⟩) (s := s) (r := (.normal, ⟨fr1.t, N, fr1.d⟩, s1)) (by simp only [scopeF, pointX_at])
          exact .inl ⟨_, _, _, hx, hr'⟩
      | panic chain =>
        cases hr'
        exact .inr ⟨h1.leaves (x := .inScope whole) (by intro h; cases h) (fun _ _ h => by cases h) (fun _ _ h => by cases h), by intro h; cases h⟩
      | jump j =>
        by_cases hj : ∃ l, j = .goto l
        · obtain ⟨l, rfl⟩ := hj
          simp only [scopeK] at hr'
          cases hl : findLabel whole l with
          | none =>
            rw [hl] at hr'
            cases hr'
            have hx := scopeF_ok (P := P) (E := E) (pointX_ok h1) (whole := whole) 1 (ctx := ⟨fn, round⟩) (c := c) (fr := ⟨t, N, d⟩) (s := s) (r := (.jump (.goto l), fr1, s1)) (by simp only [scopeF, pointX_at, hl])
            exact .inr ⟨hx, by intro h; cases h⟩
          | some rest =>
            rw [hl] at hr'
            simp only at hr'
            cases hb : Nat.beq fr1.n N with
            | false => rw [hb] at hr'; cases hr'
            | true =>
              rw [hb] at hr'
              rw [fr_eta hb] at h1
              have step : ∀ r2, From P E ⟨fn, round⟩ [.code rest, .inScope whole] ⟨fr1.t, N, fr1.d⟩ s1 r2 → From P E ⟨fn, round⟩ [.code c, .inScope whole] ⟨t, N, d⟩ s r2 := by
                intro r2 h2 ρ w tmps defers fn' kind round' kk cs q1 q2 q3
                obtain ⟨ρ1, w1, tmps1, defers1, t1, t2, t3, pre, t4, t5⟩ := h1 ρ w tmps defers fn' kind round' (.inScope whole :: kk) cs q1 q2 q3
                obtain ⟨ρ2, w2, tmps2, defers2, u1, u2, u3, u4⟩ := h2 ρ1 w1 tmps1 defers1 fn' kind round' kk cs t1 t3 (q3.mono t2.le)
                refine ⟨ρ2, w2, tmps2, defers2, u1, t2.trans u2, u3, u4.of_steps (t5.trans (.one (st_goto ?_)))⟩
                have := t4 (.inScope whole :: kk)
                show gotoIn l (pre ++ .inScope whole :: kk) = _
                rw [this]
                simp [gotoIn, hl]
              rcases scopeR_ok h hcall n rest _ _ _ _ hr' with ⟨t2, d2, s2, g1, g2⟩ | ⟨g1, g2⟩
              · exact .inl ⟨t2, d2, s2, step _ g1, g2⟩
              · exact .inr ⟨step _ g1, g2⟩
        · have hrr : r = (.jump j, fr1, s1) := by
            cases j <;> first | (cases hr'; rfl) | skip
            exact absurd ⟨_, rfl⟩ hj
          subst hrr
          refine .inr ⟨h1.leaves (x := .inScope whole) (by intro h; cases h) (fun _ _ _ => rfl) ?_, by intro h; cases h⟩
          intro l k hl
          simp only [AExit.jump.injEq] at hl
          exact absurd ⟨l, hl⟩ hj

theorem rangeK_ok {N : Nat} {k : K} {x : Out} {r} (h : rangeK N k x = some r) : ∃ r1, x = some r1 ∧ ((∃ t1 d1 s1, r1 = (.normal, ⟨t1, N, d1⟩, s1) ∧ k t1 d1 s1 = some r) ∨ (r1 = r ∧ r.1 ≠ .normal)) := by
  cases x with
  | none => cases h
  | some r1 =>
    obtain ⟨e, fr, s⟩ := r1
    refine ⟨_, rfl, ?_⟩
    cases e with
    | normal =>
      simp only [rangeK] at h
      cases hb : Nat.beq fr.n N with
      | false => rw [hb] at h; cases h
      | true => rw [hb] at h; exact .inl ⟨fr.t, fr.d, s, by rw [← fr_eta hb], h⟩
    | jump c => cases h; exact .inr ⟨rfl, by intro h; cases h⟩
    | panic c => cases h; exact .inr ⟨rfl, by intro h; cases h⟩

theorem jumpX_ctx (ctx ctx' : Ctx) (c : Code) (fr : Fr) (s : St) : jumpX ctx c fr s = jumpX ctx' c fr s := by cases c <;> rfl
theorem rangeBack_some {fn N call round k t md l x r} (h : rangeBack fn N call round k t md l x = some r) :
    ∃ r1, (match x with
        | some (.ret _, s) => match s.h.get l with
          | some (.loop st pending fn' t' n' ps as bo de) =>
            if decide (st = .busy) then none else
            match pending with
            | none => some (.normal, ⟨t, N, md⟩, s.put l (.loop .exhausted pending fn' t' n' ps as bo de))
            | some c => jumpX ⟨fn, round⟩ c ⟨t, N, md⟩ (s.put l (.loop .exhausted pending fn' t' n' ps as bo de))
          | _ => none
        | some (.panic chain, s) => some (.panic chain, ⟨t, N, md⟩, s)
        | none => none : Out) = some r1 ∧ ((∃ t1 d1 s1, r1 = (.normal, ⟨t1, N, d1⟩, s1) ∧ k t1 d1 s1 = some r) ∨ (r1 = r ∧ r.1 ≠ .normal)) := by
  unfold rangeBack at h
  rcases resK_some h with ⟨v, s', h1, h⟩ | ⟨c, s', h1, h⟩
  · rw [h1]
    obtain ⟨obj, h2, h⟩ := getK_some h
    replace h := loopO_some h; obtain ⟨a1, a2, a3, a4, a5, a6, a7, a8, a9, rfl, h⟩ := h
    simp only [h2]
    split at h
    · cases h
    · rename_i hb
      rw [if_neg hb]
      rw [putK_eq] at h
      cases a2 with
      | none => exact ⟨_, rfl, .inl ⟨_, _, _, rfl, h⟩⟩
      | some c =>
        refine ⟨r, h, .inr ⟨rfl, ?_⟩⟩
        cases c <;> simp only [jumpX] at h <;> cases h <;> (intro hh; cases hh)
  · rw [h1]
    cases h
    exact ⟨_, rfl, .inr ⟨rfl, by intro hh; cases hh⟩⟩
theorem rangeGo_some {fn N} {f : Operand} {g} (hg : opd E f = .val g) {params assign body call round k t d d' mark s r} (h : rangeGo E fn N g params assign body call round k t d d' mark s = some r) :
    ∃ r1, (match eval E ⟨t, N, mark ++ d⟩ f with
    | none => none
    | some g => match callV E g [.func (.yield s.nx) #[] #[]] (s.alloc (.loop .ready none fn t N params.toList assign body d')) with
      | some (.enter gf args) => match call (.enter gf args) (s.alloc (.loop .ready none fn t N params.toList assign body d')) with
        | some (.ret _, s') => match s'.h.get s.nx with
          | some (.loop st pending fn' t' n' ps as bo de) =>
            if decide (st = .busy) then none else
            match pending with
            | none => some (.normal, ⟨t, N, mark ++ d⟩, s'.put s.nx (.loop .exhausted pending fn' t' n' ps as bo de))
            | some c => jumpX ⟨fn, round⟩ c ⟨t, N, mark ++ d⟩ (s'.put s.nx (.loop .exhausted pending fn' t' n' ps as bo de))
          | _ => none
        | some (.panic chain, s') => some (.panic chain, ⟨t, N, mark ++ d⟩, s')
        | none => none
      | _ => none : Out) = some r1 ∧ ((∃ t1 d1 s1, r1 = (.normal, ⟨t1, N, d1⟩, s1) ∧ k t1 d1 s1 = some r) ∨ (r1 = r ∧ r.1 ≠ .normal)) := by
  unfold rangeGo at h
  rw [allocK_eq] at h
  rcases fnK_some h with h | ⟨gf, b, c, hgf, h⟩ | ⟨l, b, c, hgf, h⟩
  · cases h
  rotate_left
  · cases h
  obtain ⟨hb, h⟩ := ifK_some h
  have hcv : callV E (g t) [.func (.yield s.nx) #[] #[]] (s.alloc (.loop .ready none fn t N params.toList assign body d')) = some (.enter gf (b.toList ++ ([.func (.yield s.nx) #[] #[]] ++ c.toList))) := by
    rw [hgf]
    simp only [callV]
    rw [List.append_assoc]
    exact bodyB_ok E hb _ _
  rw [opd_ok hg]
  simp only [hcv]
  exact rangeBack_some h
theorem rangeC_ok (ok : E.Ok P) (fn : FuncId) (N : Nat) (f : Operand) (ps : Array Tmp) (a b : Code) : CSpec P E fn N [.code (.rangeFunc f ps a b)] (rangeC E fn N f ps a b) := by
  intro call hcall round k t d s r h
  have key : ∃ r1, rangeFuncF E jumpX call ⟨fn, round⟩ f ps a b ⟨t, N, d⟩ s = some r1 ∧ ((∃ t1 d1 s1, r1 = (.normal, ⟨t1, N, d1⟩, s1) ∧ k t1 d1 s1 = some r) ∨ (r1 = r ∧ r.1 ≠ .normal)) := by
    unfold rangeC at h
    split at h
    · exact (Cl.bad_run h).elim
    rename_i g hg
    rw [Cl.run_mk] at h
    unfold rangeFuncF
    cases round with
    | none =>
      simp only at h ⊢
      rw [allocK_eq] at h
      exact rangeGo_some hg h
    | some l =>
      simp only at h ⊢
      obtain ⟨obj, h2, h⟩ := getK_some h
      replace h := loopO_some h; obtain ⟨a1, a2, a3, a4, a5, a6, a7, a8, a9, rfl, h⟩ := h
      rw [h2]
      exact rangeGo_some hg h
  obtain ⟨r1, h1, h2⟩ := key
  have h3 := rangeFuncF_ok ok (jumpX_ok) hcall h1
  rcases h2 with ⟨t1, d1, s1, rfl, h4⟩ | ⟨rfl, h4⟩
  · exact .inl ⟨t1, d1, s1, h3, h4⟩
  · exact .inr ⟨h3, h4⟩

theorem drawC_ok (ok : E.Ok P) (hmix : P.follows .mixedOrders = true) (fn : FuncId) (N : Nat) (id : Nat) (ops : Array Oper) : CSpec P E fn N [.code (.region id ops true)] (drawC E N ops) := by
  intro call hcall round k t d s r h
  obtain ⟨t1, d1, s1, h1, h2⟩ := drawC_some E N h
  exact .inl ⟨t1, d1, s1, regionF_ok (P := P) ok hmix hcall (ctx := ⟨fn, round⟩) (id := id) h1, h2⟩

theorem CSpec.steps {fn : FuncId} {N : Nat} {a b : List Item} {c : Cl} (h : CSpec P E fn N b c)
    (hs : ∀ fn kind round tmps defers k cs w, Steps P (lone (cfr fn kind round tmps defers (a ++ k)) cs w) (lone (cfr fn kind round tmps defers (b ++ k)) cs w)) : CSpec P E fn N a c := by
  intro call hcall round k t d s r hr
  rcases h call hcall round k t d s r hr with ⟨t1, d1, s1, h1, h2⟩ | ⟨h1, h2⟩
  · exact .inl ⟨t1, d1, s1, h1.steps hs, h2⟩
  · exact .inr ⟨h1.steps hs, h2⟩

theorem comp_ok (ok : E.Ok P) (hmix : P.follows .mixedOrders = true) (fn : FuncId) (N : Nat) : ∀ m c, CSpec P E fn N [.code c] (comp E fn N m c)
  | 0, c => fun call hcall round k t d s r h => (Cl.bad_run h).elim
  | m + 1, c => by
    have ih := comp_ok ok hmix fn N m
    cases c with
    | skip => exact fun call hcall round k t d s r h => .inl ⟨t, d, s, From.now fun _ _ _ _ _ _ _ _ => st_skip, h⟩
    | label l => exact fun call hcall round k t d s r h => .inl ⟨t, d, s, From.now fun _ _ _ _ _ _ _ _ => st_label, h⟩
    | ret => intro call hcall round k t d s r h; cases h; exact .inr ⟨From.jumps trivial, by intro h; cases h⟩
    | exit i => intro call hcall round k t d s r h; cases h; exact .inr ⟨From.jumps fun k => by simp, by intro h; cases h⟩
    | goto l => intro call hcall round k t d s r h; cases h; exact .inr ⟨From.jumps fun k => by simp, by intro h; cases h⟩
    | seq a b =>
      intro call hcall round k t d s r h
      have hst : ∀ (fn : FuncId) kind round tmps defers (k : List Item) cs w, Steps P (lone (cfr fn kind round tmps defers ([.code (.seq a b)] ++ k)) cs w) (lone (cfr fn kind round tmps defers ([.code a, .code b] ++ k)) cs w) :=
        fun _ _ _ _ _ _ _ _ => .one st_seq
      rw [comp, seqC_run] at h
      rcases ih a call hcall round _ t d s r h with ⟨t1, d1, s1, h1, h2⟩ | ⟨h1, h2⟩
      · rcases ih b call hcall round _ t1 d1 s1 r h2 with ⟨t2, d2, s2, h3, h4⟩ | ⟨h3, h4⟩
        · exact .inl ⟨t2, d2, s2, (h1.andThen h3).steps hst, h4⟩
        · exact .inr ⟨(h1.andThen h3).steps hst, h4⟩
      · exact .inr ⟨(h1.leaves h2 (fun _ _ _ => rfl) (fun _ _ _ => rfl)).steps hst, h2⟩
    | cond x a b =>
      intro call hcall round k t d s r h
      simp only [comp] at h
      split at h
      · rename_i g hg
        rw [condC_run] at h
        obtain ⟨bb, hb, h⟩ := boolK_some h
        have hc := opd_ok hg t N d
        rw [hb] at hc
        cases bb with
        | true =>
          rcases ih a call hcall round _ t d s r h with ⟨t1, d1, s1, h1, h2⟩ | ⟨h1, h2⟩
          · exact .inl ⟨t1, d1, s1, From.cond hc h1, h2⟩
          · exact .inr ⟨From.cond hc h1, h2⟩
        | false =>
          rcases ih b call hcall round _ t d s r h with ⟨t1, d1, s1, h1, h2⟩ | ⟨h1, h2⟩
          · exact .inl ⟨t1, d1, s1, From.cond hc h1, h2⟩
          · exact .inr ⟨From.cond hc h1, h2⟩
      · exact (Cl.bad_run h).elim
    | block id c =>
      intro call hcall round k t d s r h
      have h' : blockK N id k ((comp E fn N m c).run call round (retK N) t d s) = some r := h
      cases ha : (comp E fn N m c).run call round (retK N) t d s with
      | none => rw [ha] at h'; cases h'
      | some r1 =>
        rw [ha] at h'
        have h1 := (ih c).back hcall ha
        have hb := fun r2 hx => blockF_ok (P := P) (E := E) (pointX_ok h1) (id := id) (c := c) (ctx := ⟨fn, round⟩) (fr := ⟨t, N, d⟩) (s := s) (r := r2) (by rw [pointX_at]; exact hx)
        obtain ⟨e1, fr1, s1⟩ := r1
        cases e1 with
        | normal =>
          have h' : backK N k (fr1, s1) = some r := h'
          obtain ⟨t1, n1, d1⟩ := fr1
          rcases boolRec_some h' with ⟨hq, h2⟩ | ⟨hq, h2⟩
          · obtain rfl := Nat.eq_of_beq_eq_true hq
            exact .inl ⟨t1, d1, s1, hb _ rfl, h2⟩
          · cases h2
        | panic chain => cases h'; exact .inr ⟨hb _ rfl, by intro h; cases h⟩
        | jump j =>
          by_cases hj : ∃ i, j = .exit i
          · obtain ⟨i, rfl⟩ := hj
            have h' : @Bool.rec (fun _ => Out) (some (.jump (.exit i), fr1, s1)) (backK N k (fr1, s1)) (Nat.beq i id) = some r := h'
            rcases boolRec_some h' with ⟨hi, h'⟩ | ⟨hi, h'⟩
            · obtain ⟨t1, n1, d1⟩ := fr1
              rcases boolRec_some h' with ⟨hq, h2⟩ | ⟨hq, h2⟩
              · obtain rfl := Nat.eq_of_beq_eq_true hq
                exact .inl ⟨t1, d1, s1, hb _ (by simp [Nat.eq_of_beq_eq_true hi]), h2⟩
              · cases h2
            · cases h'
              exact .inr ⟨hb _ (by simp [Nat.ne_of_beq_eq_false hi]), by intro h; cases h⟩
          · have hrr : r = (.jump j, fr1, s1) := by
              cases j <;> first | (cases h'; rfl) | skip
              exact absurd ⟨_, rfl⟩ hj
            subst hrr
            refine .inr ⟨hb _ ?_, by intro h; cases h⟩
            cases j <;> first | rfl | exact absurd ⟨_, rfl⟩ hj
    | loop c =>
      intro call hcall round k t d s r h
      rw [comp, Cl.run_mk] at h
      obtain ⟨h1, h2⟩ := loopK_ok (ih c) hcall 100000 t d s r h
      exact .inr ⟨h1.steps fun _ _ _ _ _ _ _ _ => .one st_loop, h2⟩
    | scope whole =>
      intro call hcall round k t d s r h
      have hst : ∀ (fn : FuncId) kind round tmps defers (k : List Item) cs w, Steps P (lone (cfr fn kind round tmps defers ([.code (.scope whole)] ++ k)) cs w) (lone (cfr fn kind round tmps defers ([.code whole, .inScope whole] ++ k)) cs w) :=
        fun _ _ _ _ _ _ _ _ => .one st_scope
      rw [comp, Cl.run_mk] at h
      rcases scopeR_ok ih hcall 100000 whole t d s r h with ⟨t1, d1, s1, h1, h2⟩ | ⟨h1, h2⟩
      · exact .inl ⟨t1, d1, s1, h1.steps hst, h2⟩
      · exact .inr ⟨h1.steps hst, h2⟩
    | rangeFunc f ps a b => exact rangeC_ok ok fn N f ps a b
    | region id ops draw =>
      cases draw with
      | true => exact drawC_ok ok hmix fn N id ops
      | false => exact (regC_ok ok fn N ops).steps fun _ _ _ _ _ _ _ _ => .one st_region
    | refuse w => exact fun call hcall round k t d s r h => (Cl.bad_run h).elim
end
end Go.Eng

/- The evaluator for the kernel: calls. -/
namespace Go.Eng
section
variable (E : Env) (m : Nat)
/-- A piece of code, compiled and run. -/
noncomputable def execC (call : Call') : Ctx → Code → Fr → St → Out := fun ctx c fr s => (comp E ctx.fn fr.n m c).run call ctx.round (retK fr.n) fr.t fr.d s

noncomputable def bodyC (f : FuncId) (fn : Func) : Cl := match fn.body with
  | some body => comp E f fn.ntmps m body
  | none => .bad
/-- A function's code, the number brought to its own form. -/
noncomputable def codeC (fn : Func) (f : FuncId) : Cl := @Nat.rec (fun _ => Cl) (bodyC E m 0 fn) (fun n _ => bodyC E m (n + 1) fn) f
/-- What is handed back. -/
inductive RC where
  | mk (f : F → St → (List Value → Option (AEnd × St)) → Option (AEnd × St))
  | bad
noncomputable def resC : List ResultVar → RC
  | [] => .mk fun _ _ k => k []
  | .tmp i :: rest => match getC i, resC rest with
    | .mk g, .mk f => .mk fun t s k => f t s fun l => k (g t :: l)
    | _, _ => .bad
  | .cell a ty :: rest => match getC a, resC rest with
    | .mk g, .mk f => .mk fun t s k => pointerK (g t) fun p => someK p fun p => someK (loadV E s ty p) fun v => f t s fun l => k (v :: l)
    | _, _ => .bad
noncomputable def leaveK (call : Call') (fn : Func) (fr : Fr) (s : St) : Option (AEnd × St) :=
  @List.rec Deferred (fun _ => Option (AEnd × St)) (@RC.rec (fun _ => Option (AEnd × St)) (fun f => f fr.t s fun vs => some (.ret (tupled vs), s)) none (resC E fn.results.toList)) (fun _ _ _ => leaveF E call fn fr s) fr.d
noncomputable def leaveC (call : Call') (fn : Func) (r : Out) : Option (AEnd × St) :=
  match r with
  | some (.normal, fr, s) => leaveK E call fn fr s
  | some (.jump .ret, fr, s) => leaveK E call fn fr s
  | some (.panic chain, fr, s) => if fr.d.isEmpty then some (.panic chain, s) else none
  | _ => none
/-- The first temporaries: the arguments. -/
noncomputable def nthD (l : List Value) (i : Nat) : Value := @List.rec Value (fun _ => Nat → Value) (fun _ => undef) (fun v _ ih n => @Nat.rec (fun _ => Value) v (fun n _ => ih n) n) l i
noncomputable def argF (l : List Value) : F := ⟨⟨⟨nthD l 0, nthD l 1, nthD l 2, nthD l 3, nthD l 4, nthD l 5, nthD l 6, nthD l 7, nthD l 8, nthD l 9, nthD l 10, nthD l 11, nthD l 12, nthD l 13, nthD l 14, nthD l 15⟩,
  N16.all undef, N16.all undef, N16.all undef, N16.all undef, N16.all undef, N16.all undef, N16.all undef, N16.all undef, N16.all undef, N16.all undef, N16.all undef, N16.all undef, N16.all undef, N16.all undef, N16.all undef⟩, .leaf⟩
noncomputable def frameC (l : List Value) : F := bif Nat.ble l.length 9 then argF l else F.ofList l
noncomputable def enterC (call : Call') (f : FuncId) (args : List Value) (s : St) : Option (AEnd × St) :=
  match E.orc f args s with
  | some (v, s) => some (.ret v, s)
  | none => match E.ft.get f with
    | some fn => bif Nat.ble args.length fn.ntmps then leaveC E call fn ((codeC E m fn f).run call none (retK fn.ntmps) (frameC args) [] s) else none
    | none => none
noncomputable def roundR (call : Call') (l : Nat) (r : Out) : Option (AEnd × St) :=
  match r with
  | some (.panic _, _, _) => none
  | some (e, _, s) => getK l s fun obj => loopO obj fun _ _ fn t n params assign body defers =>
      putK l (.loop (if (jumpOf e).isNone then .ready else .done) (jumpOf e) fn t n params assign body defers) s fun s => some (.ret (.bool (jumpOf e).isNone), s)
  | none => none
noncomputable def readyK {β : Type} (st : LoopState) (yes : Option β) : Option β := match st with
  | .ready => yes
  | _ => none
noncomputable def roundB (call : Call') (fn : FuncId) (body : Code) (n : Nat) (l : Nat) (r : Out) : Option (AEnd × St) :=
  match r with
  | some (.normal, fr, s) => bif Nat.beq fr.n n then getK l s fun obj => loopO obj fun st p fn' t n' params assign' body' defers => readyK st
      (putK l (.loop .busy p fn' t n' params assign' body' defers) s fun s => roundR call l ((comp E fn n m body).run call (some l) (retK n) fr.t fr.d s)) else none
  | _ => none
noncomputable def putsK (n : Nat) (l : List (Tmp × Value)) : F → (F → Out) → Out :=
  @List.rec (Tmp × Value) (fun _ => F → (F → Out) → Out) (fun t k => k t) (fun p _ ih t k => @Prod.rec _ _ (fun _ => Out) (fun i v => (putC n (some i)).put v t fun t => ih t k) p) l
noncomputable def roundC (call : Call') (l : Nat) (args : List Value) (s : St) : Option (AEnd × St) :=
  getK l s fun obj => loopO obj fun st _ fn t n params assign body _ => readyK st
    (bif Nat.beq args.length params.length then
      roundB E m call fn body n l (putsK n (params.zip args) t fun t => (comp E fn n m assign).run call (some l) (retK n) t [] s)
    else none)
noncomputable def stepC (call : Call') : Call' := fun a s => match a with
  | .enter f args => enterC E m call f args s
  | .round l args => roundC E m call l args s
  | _ => none
noncomputable def callC (n : Nat) : Call' := @Nat.rec (fun _ => Call') (fun _ _ => none) (fun _ ih => stepC E m ih) n
end

section
variable {P : Program} {E : Env}
theorem execC_ok (ok : E.Ok P) (hmix : P.follows .mixedOrders = true) (m : Nat) {call : Call'} (hcall : ∀ a s r, call a s = some r → CallOk P E a s r) :
    ∀ ctx c fr s r, execC E m call ctx c fr s = some r → From P E ctx [.code c] fr s r := by
  intro ctx c fr s r h
  exact (comp_ok ok hmix ctx.fn fr.n m c).back hcall h

theorem codeC_eq (m : Nat) (f : FuncId) (fn : Func) : codeC E m fn f = bodyC E m f fn := by
  cases f <;> rfl
theorem putsK_eq (n : Nat) : ∀ (l : List (Tmp × Value)) (t : F) (k : F → Out), putsK n l t k = k (l.foldl (fun (fr : Fr) x => fr.put (some x.1) x.2) ⟨t, n, []⟩).t ∧ l.foldl (fun (fr : Fr) x => fr.put (some x.1) x.2) ⟨t, n, []⟩ = ⟨(l.foldl (fun (fr : Fr) x => fr.put (some x.1) x.2) ⟨t, n, []⟩).t, n, []⟩
  | [], t, k => ⟨rfl, rfl⟩
  | (i, v) :: l, t, k => by
    have e : putsK n ((i, v) :: l) t k = (putC n (some i)).put v t fun t => putsK n l t k := rfl
    simp only [List.foldl_cons]
    rw [e, putC_ok n (some i) v t [], put_fr]
    exact putsK_eq n l _ k
theorem resC_some {N : Nat} {d : List Deferred} : ∀ {rs : List ResultVar} {f} {t s k r}, resC E rs = .mk f → f t s k = some r → ∃ vs, resultsV E s ⟨t, N, d⟩ rs = some vs ∧ k vs = some r
  | [], f, t, s, k, r, hf, h => by cases hf; exact ⟨[], rfl, h⟩
  | .tmp i :: rest, f, t, s, k, r, hf, h => by
    simp only [resC] at hf
    have hg := getC_ok i t
    split at hf
    · rename_i g f' h1 h2
      cases hf
      rw [h1] at hg
      obtain ⟨vs, h3, h4⟩ := resC_some (N := N) (d := d) h2 h
      refine ⟨g t :: vs, ?_, h4⟩
      simp only [resultsV, h3, Option.map_some, Fr.tmp]
      rw [← hg]; rfl
    · cases hf
  | .cell a ty :: rest, f, t, s, k, r, hf, h => by
    simp only [resC] at hf
    have hg := getC_ok a t
    split at hf
    · rename_i g f' h1 h2
      cases hf
      rw [h1] at hg
      obtain ⟨p, hp, h⟩ := pointerK_some h
      replace h := someK_some h; obtain ⟨p, rfl, h⟩ := h
      obtain ⟨v, hv, h⟩ := someK_some h
      obtain ⟨vs, h3, h4⟩ := resC_some (N := N) (d := d) h2 h
      refine ⟨v :: vs, ?_, h4⟩
      have : (⟨t, N, d⟩ : Fr).tmp a = .pointer (some p) := by
        simp only [Fr.tmp]; rw [← hg]; exact hp
      simp only [resultsV, this, hv, h3]
    · cases hf
theorem leaveK_eq {call : Call'} {fn : Func} {fr : Fr} {s : St} {r} (h : leaveK E call fn fr s = some r) : leaveF E call fn fr s = some r := by
  obtain ⟨t, N, d⟩ := fr
  unfold leaveK at h
  cases d with
  | cons a l => exact h
  | nil =>
    simp only at h
    cases hf : resC E fn.results.toList with
    | bad => rw [hf] at h; cases h
    | mk f =>
      rw [hf] at h
      obtain ⟨vs, h1, h2⟩ := resC_some (N := N) (d := []) hf h
      have hd : defersF E call 100000 [] s = some s := by unfold defersF; rfl
      simp only [leaveF, hd, h1]
      exact h2
theorem argF_eq : ∀ (l : List Value), l.length ≤ 9 → argF l = F.ofList l
  | [], _ => rfl
  | [a], _ => rfl
  | [a, b], _ => rfl
  | [a, b, c], _ => rfl
  | [a, b, c, d], _ => rfl
  | [a, b, c, d, e], _ => rfl
  | [a, b, c, d, e, f], _ => rfl
  | [a, b, c, d, e, f, g], _ => rfl
  | [a, b, c, d, e, f, g, h], _ => rfl
  | [a, b, c, d, e, f, g, h, i], _ => rfl
  | a :: b :: c :: d :: e :: f :: g :: h :: i :: j :: l, hh => by simp at hh
theorem frameC_eq (l : List Value) : frameC l = F.ofList l := by
  unfold frameC
  cases hb : Nat.ble l.length 9 with
  | false => rfl
  | true => exact argF_eq l (Nat.le_of_ble_eq_true hb)
theorem readyK_some {β : Type} {st : LoopState} {y : Option β} {r} (h : readyK st y = some r) : st = .ready ∧ y = some r := by
  cases st <;> first | exact ⟨rfl, h⟩ | cases h

theorem enterC_eq (m : Nat) {call : Call'} {f : FuncId} {args : List Value} {s : St} {r : AEnd × St} (h : enterC E m call f args s = some r) : enterF E (execC E m call) call f args s = some r := by
  unfold enterC at h
  unfold enterF
  split at h
  · rename_i v s' ho; rw [ho]; exact h
  rename_i ho
  rw [ho]
  simp only
  split at h
  case h_2 => cases h
  rename_i fn hfn
  rw [hfn]
  simp only
  cases hb : Nat.ble args.length fn.ntmps with
  | false => rw [hb] at h; cases h
  | true =>
  rw [hb] at h
  simp only [cond] at h
  have hmax : max args.length fn.ntmps = fn.ntmps := Nat.max_eq_right (Nat.le_of_ble_eq_true hb)
  rw [codeC_eq] at h
  unfold bodyC at h
  cases hbo : fn.body with
  | none => rw [hbo] at h; cases h
  | some body =>
    rw [hbo] at h
    simp only at h ⊢
    rw [hmax]
    rw [frameC_eq] at h
    simp only [execC]
    unfold leaveC at h
    split at h
    · rename_i hx; rw [hx]; exact leaveK_eq h
    · rename_i hx; rw [hx]; exact leaveK_eq h
    · rename_i hx; rw [hx]; exact h
    · cases h

theorem roundC_eq (m : Nat) {call : Call'} {l : Nat} {args : List Value} {s : St} {r : AEnd × St} (h : roundC E m call l args s = some r) : roundF (execC E m call) l args s = some r := by
  unfold roundC at h
  unfold roundF
  obtain ⟨obj, h2, h⟩ := getK_some h
  replace h := loopO_some h; obtain ⟨st, pe, fn, t, n, params, assign, body, de, rfl, h⟩ := h
  replace h := readyK_some h; obtain ⟨rfl, h⟩ := h
  rw [h2]
  simp only
  cases hl : Nat.beq args.length params.length with
  | false => rw [hl] at h; cases h
  | true =>
  rw [hl] at h
  simp only [cond] at h
  rw [if_pos (Nat.eq_of_beq_eq_true hl)]
  obtain ⟨e1, e2⟩ := putsK_eq n (params.zip args) t fun t => (comp E fn n m assign).run call (some l) (retK n) t [] s
  rw [e1] at h
  rw [e2]
  generalize ((params.zip args).foldl (fun (fr : Fr) x => fr.put (some x.1) x.2) ⟨t, n, []⟩).t = t' at h ⊢
  simp only [execC]
  unfold roundB at h
  split at h
  case h_2 => cases h
  rename_i fr1 s1 hx
  rw [hx]
  simp only
  cases hb : Nat.beq fr1.n n with
  | false => rw [hb] at h; cases h
  | true =>
  rw [hb] at h
  simp only [cond] at h
  obtain ⟨obj, h3, h⟩ := getK_some h
  replace h := loopO_some h; obtain ⟨st, p, fn', t2, n', params', assign', body', de', rfl, h⟩ := h
  replace h := readyK_some h; obtain ⟨rfl, h⟩ := h
  rw [putK_eq] at h
  rw [h3]
  simp only [Nat.eq_of_beq_eq_true hb]
  unfold roundR at h
  split at h
  · cases h
  · rename_i e fr2 s2 hnp hx2
    rw [hx2]
    simp only
    obtain ⟨obj, h4, h⟩ := getK_some h
    replace h := loopO_some h; obtain ⟨a1, a2, a3, a4, a5, a6, a7, a8, a9, rfl, h⟩ := h
    rw [putK_eq] at h
    rw [h4]
    cases e with
    | panic c => exact (hnp _ rfl).elim
    | normal => exact h
    | jump c => exact h
  · cases h

theorem callC_ok (ok : E.Ok P) (hmix : P.follows .mixedOrders = true) (horc : E.True P) (m : Nat) : ∀ n a s r, callC E m n a s = some r → CallOk P E a s r
  | 0, a, s, r, h => by cases h
  | n + 1, a, s, r, h => by
    have ih := callC_ok ok hmix horc m n
    have h' : stepC E m (callC E m n) a s = some r := h
    cases a <;> simp only [stepC] at h'
    case enter f args => exact enterF_ok ok horc (execC_ok ok hmix m ih) ih (enterC_eq m h')
    case round l args => exact roundF_ok (execC_ok ok hmix m ih) (roundC_eq m h')
    all_goals cases h'
end
end Go.Eng
