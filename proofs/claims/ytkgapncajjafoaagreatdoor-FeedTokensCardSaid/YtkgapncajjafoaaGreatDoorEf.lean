/- The abstract evaluator of the model, part f: definitions and laws, of no program. -/
import Derived.Test.YtkgapncajjafoaaGreatDoorEe
import Derived.Orders
set_option linter.all false
/- The abstract evaluator: regions that draw their order; of single operations. -/
namespace Go.Eng
section
variable {P : Program} {E : Env} {ρ : Ren} {s : St} {w : World}

mutual
theorem veq_eq : ∀ {a b : Value}, veq a b = true → a = b
  | .bool a, b, h => by cases b <;> simp_all [veq]
  | .int j a, b, h => by cases b <;> simp_all [veq, eqI_eq]
  | .string ⟨⟨a⟩⟩, b, h => by
    cases b <;> simp [veq] at h
    rename_i b
    obtain ⟨⟨b⟩⟩ := b
    rw [eqB_eq] at h
    simpa using h
  | .pointer a, b, h => by cases b <;> simp_all [veq]
  | .slice a n c, b, h => by cases b <;> simp_all [veq]
  | .map a, b, h => by cases b <;> simp_all [veq]
  | .func f ⟨a⟩ ⟨c⟩, b, h => by
    cases b <;> simp [veq] at h
    rename_i g b d
    obtain ⟨b⟩ := b
    obtain ⟨d⟩ := d
    simp only [veq, Bool.and_eq_true, decide_eq_true_eq] at h
    rw [h.1.1, veqs_eq h.1.2, veqs_eq h.2]
  | .nilFunc, b, h => by cases b <;> simp_all [veq]
  | .nilIface, b, h => by cases b <;> simp_all [veq]
  | .iface t a, b, h => by
    cases b <;> simp [veq] at h
    rw [h.1, veq_eq h.2]
  | .agg ⟨a⟩, b, h => by
    cases b <;> try (simp [veq] at h; done)
    rename_i b
    obtain ⟨b⟩ := b
    have : a = b := veqs_eq (by simpa only [veq] using h)
    rw [this]
  | .tuple ⟨a⟩, b, h => by
    cases b <;> try (simp [veq] at h; done)
    rename_i b
    obtain ⟨b⟩ := b
    have : a = b := veqs_eq (by simpa only [veq] using h)
    rw [this]
  | .float .., b, h => by cases b <;> simp [veq] at h
  | .complex .., b, h => by cases b <;> simp [veq] at h
  | .chan .., b, h => by cases b <;> simp [veq] at h
theorem veqs_eq : ∀ {a b : List Value}, veqs a b = true → a = b
  | [], b, h => by cases b <;> simp_all [veqs]
  | a :: as, b, h => by
    cases b with
    | nil => simp [veqs] at h
    | cons b bs =>
      simp only [veqs, Bool.and_eq_true] at h
      rw [veq_eq h.1, veqs_eq h.2]
end
theorem oeq_eq {a b : AObj} (h : oeq a b = true) : a = b := by
  cases a <;> cases b <;> simp only [oeq] at h <;> first | contradiction | skip
  simp only [Bool.and_eq_true, Nat.beq_eq, beq_iff_eq] at h
  obtain ⟨⟨⟨⟨h1, h2⟩, h3⟩, h4⟩, h5⟩ := h
  rw [veqs_eq h1, h2, h3, h4, h5]

/-! ### of an operation's operands alone -/
theorem evals_congr {fr fr' : Fr} : ∀ {xs : List Operand}, (∀ x ∈ xs, eval E fr x = eval E fr' x) → evals E fr xs = evals E fr' xs
  | [], _ => rfl
  | x :: xs, h => by simp only [evals, h x (by simp), evals_congr (xs := xs) fun y hy => h y (by simp [hy])]
theorem evalParts_congr {fr fr' : Fr} : ∀ {xs : List (Nat × Operand)}, (∀ x ∈ xs.map (·.2), eval E fr x = eval E fr' x) → evalParts E fr xs = evalParts E fr' xs
  | [], _ => rfl
  | (i, x) :: xs, h => by simp only [evalParts, h x (by simp), evalParts_congr (xs := xs) fun y hy => h y (by simp only [List.map_cons, List.mem_cons]; exact .inr hy)]
theorem evalOpt_congr {fr fr' : Fr} {x : Option Operand} (h : ∀ y ∈ x.toList, eval E fr y = eval E fr' y) : evalOpt E fr x = evalOpt E fr' x := by
  cases x with
  | none => rfl
  | some x => simp only [evalOpt, h x (by simp)]

theorem evalOp_congr {fr fr' : Fr} {o : Oper} (h : ∀ x ∈ o.op.operands.toList, eval E fr x = eval E fr' x) : evalOp E fr o s = evalOp E fr' o s := by
  obtain ⟨dst, op, ty, pos, aft, guard⟩ := o
  simp only at h
  cases op <;> simp only [evalOp] <;> try rfl
  case call c =>
    obtain ⟨callee, args, ats⟩ := c
    simp only [Op.operands, Call.operands] at h
    cases callee <;> simp only [callO] <;> simp only [Array.toList_append, List.mem_append] at h <;>
      rw [evals_congr (xs := args.toList) (fr := fr) (fr' := fr') fun x hx => h x (.inr hx)] <;> try rfl
    · rename_i r
      rw [h r (.inl (by simp))]
    · rename_i r n
      rw [h r (.inl (by simp))]
  case defer c =>
    obtain ⟨callee, args, ats⟩ := c
    simp only [Op.operands, Call.operands] at h
    cases callee <;> simp only [Array.toList_append, List.mem_append] at h <;> try rfl
    rename_i r
    simp only [evals_congr (xs := args.toList) (fr := fr) (fr' := fr') fun x hx => h x (.inr hx)]
    have e := h r (.inl (by simp))
    cases evals E fr' args.toList
    · rfl
    · simp only [e]
  case build t parts =>
    rw [evalParts_congr (fr := fr) (fr' := fr') fun x hx => h x (by simpa [Op.operands] using hx)]
  case buildSlice t n parts =>
    rw [evalParts_congr (fr := fr) (fr' := fr') fun x hx => h x (by simpa [Op.operands] using hx)]
  case makeFunc f xs ys =>
    rw [evals_congr (xs := xs.toList) (fr := fr) (fr' := fr') fun x hx => h x (by simp only [Op.operands, Array.toList_append, List.mem_append]; exact .inl hx),
      evals_congr (xs := ys.toList) (fr := fr) (fr' := fr') fun x hx => h x (by simp only [Op.operands, Array.toList_append, List.mem_append]; exact .inr hx)]
  case slice t x lo hi mx =>
    rw [h x (by simp [Op.operands]), evalOpt_congr (x := lo) (fr := fr) (fr' := fr') fun y hy => h y (by simp [Op.operands] at hy ⊢; simp [hy]),
      evalOpt_congr (x := hi) (fr := fr) (fr' := fr') fun y hy => h y (by simp [Op.operands] at hy ⊢; simp [hy]),
      evalOpt_congr (x := mx) (fr := fr) (fr' := fr') fun y hy => h y (by simp [Op.operands] at hy ⊢; simp [hy])]
  case makeMap t r => cases r <;> rfl
  all_goals (simp only [Op.operands, List.mem_cons, List.not_mem_nil, or_false, forall_eq_or_imp, forall_eq] at h; simp only [h])

set_option maxHeartbeats 4000000 in
theorem cls0_stays {fr : Fr} {o : Oper} {a : ANext} (hc : cls E o = 0) (h : evalOp E fr o s = some a) : ∃ v, a = .val v s := by
  obtain ⟨dst, op, ty, pos, aft, guard⟩ := o
  cases op <;> simp only [cls] at hc <;> first | (exfalso; revert hc; decide) | skip
  all_goals simp only [evalOp] at h
  case call c =>
    obtain ⟨callee, args, ats⟩ := c
    simp only at hc
    simp only [callO] at h
    split at h
    · cases h
    rename_i vs hvs
    split at hc
    case h_6 => cases hc
    all_goals
      simp only [builtinV] at h
      split at h <;> try contradiction
    all_goals try (simp only [Option.map_eq_some_iff] at h; obtain ⟨v, -, rfl⟩ := h; exact ⟨v, rfl⟩)
    all_goals try (cases h; exact ⟨_, rfl⟩)
    all_goals try (split at h <;> cases h; exact ⟨_, rfl⟩)
  case convert src dst x =>
    obtain ⟨v, h1, h2⟩ := one_some h
    obtain ⟨v, s', h3, rfl⟩ := vs_some h2
    unfold convV at h3
    split at hc
    · cases hc
    rename_i hns
    split at h3
    all_goals try (cases h3; done)
    all_goals try (cases h3; exact ⟨_, rfl⟩)
    · rename_i hd; exact absurd hd (hns _)
    · split at h3
      · cases h3; exact ⟨_, rfl⟩
      · split at h3
        · simp only [Option.map_eq_some_iff] at h3; obtain ⟨b, -, h4⟩ := h3; cases h4; exact ⟨_, rfl⟩
        · cases h3
      · cases h3
    · split at h3
      · split at h3
        · cases h3; exact ⟨_, rfl⟩
        · cases h3
      · cases h3
    · split at h3
      · split at h3
        · cases h3; exact ⟨_, rfl⟩
        · cases h3
      · cases h3
  case pick c x y =>
    obtain ⟨v, h1, h2⟩ := one_some h
    split at h2
    · obtain ⟨u, h3, h4⟩ := one_some h2; cases h4; exact ⟨_, rfl⟩
    · obtain ⟨u, h3, h4⟩ := one_some h2; cases h4; exact ⟨_, rfl⟩
    · cases h2
  all_goals
    repeat' (first | (cases h; done) | split at h)
  all_goals (cases h; exact ⟨_, rfl⟩)
end
end Go.Eng

/- The abstract evaluator: blocks that are made later than where the plan made them. -/
namespace Go.Eng
section
variable {P : Program} {E : Env} {ρ : Ren} {s : St} {w : World}

/-- Made at last. -/
def Placed (P : Program) (E : Env) (ρ : Ren) (s : St) (w : World) (r : Result Next) (b : Nat) (v : Value) : Prop :=
  ∃ hi L w1 o' v', r = .ok (.value v') (w1.alloc o') ∧ (w1 = w ∨ w1 = w.drew) ∧ L.c = w.heap.size ∧ Rel E (ρ.with b hi L) s (w1.alloc o') ∧ VRel (ρ.with b hi L) v v'

theorem with_le {b hi : Nat} {L : Loc} (hn : ∀ hi, ρ b hi = none) : ρ.le (ρ.with b hi L) := by
  intro b' hi' L' e
  by_cases hbb : b' = b ∧ hi' = hi
  · rw [hbb.1, hn] at e; cases e
  · simp [Ren.with, hbb, e]
theorem Rel.rowAt (h : Rel E ρ s w) {b : Nat} (hb : b < s.nx) (hn : ∀ hi, ρ b hi = none) {el : TypeId} {cs ca : List Value} {ex : Bool} (hg : s.h.get b = some (.cells cs el cs.length false ex))
    (hv : VRels ρ cs (ca.take cs.length)) (hx : ex = true → ca.length = cs.length) (fz : Nat × Nat := (0, 0)) (hf : ∀ i, i < ca.length → ¬ (fz.1 ≤ i ∧ i < fz.2) := by simp) :
    Rel E (ρ.with b cs.length ⟨w.heap.size, ca.length, (E.size el).getD 0, none⟩) s (w.alloc (.cells ca.toArray el fz)) :=
  (h.place hb hn hg (ORel.row ex (hv.mono (with_le hn)) hx hf)).1

set_option maxHeartbeats 1000000 in
theorem place_ok (ok : E.Ok P) (h : Rel E ρ s w) {fr : Fr} {tmps : Array Value} (hf : TRel ρ fr.t fr.n tmps) {o : Oper} {b : Nat} {v : Value} {s2 : St} {obj : AObj} (hc : cls E o = 1)
    (he : evalOp E fr o ⟨s.h, b⟩ = some (.val v s2)) (hb : b < s.nx) (hn : ∀ hi, ρ b hi = none) (hg : s.h.get b = some obj) (hg2 : s2.h.get b = some obj) :
    Placed P E ρ s w ((execOp (cev tmps) o).run P w) b v := by
  have ev := fun {x v} => eval_ok (x := x) (v := v) h hf
  obtain ⟨dst, op, ty, pos, aft, guard⟩ := o
  cases op <;> simp only [cls] at hc <;> first | (exfalso; revert hc; decide) | skip
  all_goals simp only [evalOp] at he
  case alloc elem =>
    split at he
    · rename_i z hz
      cases he
      obtain ⟨hz1, hz2⟩ := zero_of (w := w) ok hz
      simp only [St.row, St.alloc, HQ.get_set_same] at hg2
      cases hg2
      have r2 := h.rowAt (ca := z.cells.toList) hb hn hg (by rw [List.take_of_length_le (Nat.le_refl _)]; exact zero_cells hz) (fun _ => rfl)
      refine ⟨_, _, w, _, .pointer (some ⟨w.heap.size, 0, none⟩), ?_, .inl rfl, rfl, r2, .ptr (Ren.with_same _ _ _ _)⟩
      have r1' : (newRow elem z.cells).run P w = .ok ⟨w.heap.size, 0, none⟩ (w.alloc (.cells z.cells elem)) := by simp [newRow]
      show ((do pure (.value (← Instr.alloc elem true (.tuple #[]))) : Sem Next).run P w) = _
      simp only [Instr.alloc, Sem.run_bind, hz1, Result.andThen_ok, newVar, r1', Sem.run_pure]
    · cases he
  case buildSlice t len parts =>
    split at he
    · rename_i ps hps
      obtain ⟨v, s', h1, h2⟩ := vs_some he
      cases h2
      have hp := evalParts_ok h hf hps
      have e : parts.map (fun (i, x) => (i, cev tmps x)) = (parts.toList.map fun x => (x.1, cev tmps x.2)).toArray := by apply Array.ext'; simp
      unfold buildSliceV at h1
      split at h1
      case h_2 => cases h1
      rename_i elem hu
      split at h1
      case h_2 => cases h1
      rename_i size z hs hz
      split at h1
      case isTrue => cases h1
      rename_i hc
      simp only at h1
      split at h1
      case h_2 => cases h1
      rename_i cells hfl
      cases h1
      simp only [St.row, St.alloc, HQ.get_set_same] at hg2
      cases hg2
      obtain ⟨hz1, hz2⟩ := zero_of (w := w) ok hz
      have hzs := zero_size hz hs
      have hbase : VRels ρ ((Array.range (len * size)).map ((if len * size = 0 then #[] else z.cells)[· % (if len * size = 0 then #[] else z.cells).size]!)).toList
          ((Array.range (len * size)).map ((if len * size = 0 then #[] else z.cells)[· % (if len * size = 0 then #[] else z.cells).size]!)).toList := by
        by_cases h0 : len * size = 0
        · rw [if_pos h0, h0]; simpa using VRels.nil
        · rw [if_neg h0]
          refine rep_rel (flats_cells hz2) _ (fun _ => ?_)
          rw [hzs]
          rcases Nat.eq_zero_or_pos size with hh | hh
          · rw [hh] at h0; exact absurd (Nat.mul_zero _) h0
          · exact hh
      obtain ⟨cells', q1, q2⟩ := fill_ok hp hbase hfl
      have r2 := h.rowAt (ca := cells'.toList) hb hn hg (by rw [List.take_of_length_le (by rw [q2.length_eq]; exact Nat.le_refl _)]; exact q2) (fun _ => q2.length_eq.symm)
      refine ⟨_, _, w, _, .slice (some ⟨w.heap.size, 0, none⟩) len len, ?_, .inl rfl, rfl, r2, .slice _ _ (Ren.with_same _ _ _ _)⟩
      have r1' : (newRow elem cells').run P w = .ok ⟨w.heap.size, 0, none⟩ (w.alloc (.cells cells' elem)) := by simp [newRow]
      show ((do pure (.value (← Instr.buildSlice t len (parts.map fun (i, x) => (i, cev tmps x)))) : Sem Next).run P w) = _
      rw [e]
      simp only [Instr.buildSlice, Sem.run_bind, under_of ok hu, Result.andThen_ok, size_eq ok hs]
      rw [if_neg hc]
      by_cases hn : len * size = 0
      · simp only [hn, if_true, Sem.run_bind, Sem.run_pure, Result.andThen_ok] at q1 ⊢
        rw [q1]
        simp only [Sem.run_bind, r1', Result.andThen_ok, Sem.run_pure]
      · simp only [hn, if_false, Sem.run_bind, hz1, Sem.run_pure, Result.andThen_ok] at q1 ⊢
        rw [q1]
        simp only [Sem.run_bind, r1', Result.andThen_ok, Sem.run_pure]
    · cases he
  case call c =>
    exfalso
    obtain ⟨callee, args, ats⟩ := c
    simp only at hc
    split at hc <;> cases hc
  case convert src dst x =>
    obtain ⟨vx, h1, h2⟩ := one_some he
    obtain ⟨v, s', h3, h4⟩ := vs_some h2
    cases h4
    have hx := ev h1
    split at hc
    case h_2 => cases hc
    rename_i e0 hd0
    unfold convV at h3
    split at h3
    all_goals try (cases h3; done)
    all_goals try (rename_i hd; rw [hd0] at hd; cases hd; done)
    all_goals try (rename_i hd _; rw [hd0] at hd; cases hd; done)
    all_goals try (rename_i hd _ _; rw [hd0] at hd; cases hd; done)
    · rename_i d e bs hs hd
      split at h3
      · rename_i hu8 hez
        cases h3
        simp only [St.row, St.alloc, HQ.get_set_same] at hg2
        cases hg2
        generalize hq : cev tmps x = q at hx
        cases hx
        have hlen : bs.size = (bs.data.toList.map fun (b : UInt8) => Value.int .u8 b.toNat).length := by simp
        have hrun : ∃ cap, bs.size ≤ cap ∧ (convert src dst (.string bs)).run P w = .ok (.slice (some ⟨w.heap.size, 0, none⟩) bs.size cap)
            (w.drew.alloc (.cells ((bs.data.toList.map fun (b : UInt8) => Value.int .u8 b.toNat) ++ List.replicate (cap - bs.size) (Value.int .u8 0)).toArray e (cap, cap + 1))) := by
          refine ⟨Question.cut (.appendCap bs.size 0 e) (w.tape w.drawn (.appendCap bs.size 0 e)), by simp only [Question.cut]; omega, ?_⟩
          generalize hcap : Question.cut (.appendCap bs.size 0 e) (w.tape w.drawn (.appendCap bs.size 0 e)) = cap
          have hcle : bs.size ≤ cap := by rw [← hcap]; simp only [Question.cut]; omega
          have hcells : (bs.data.map fun (b : UInt8) => Value.int .u8 b.toNat) ++ Array.replicate (cap - bs.size) (Value.int .u8 0) = ((bs.data.toList.map fun (b : UInt8) => Value.int .u8 b.toNat) ++ List.replicate (cap - bs.size) (Value.int .u8 0)).toArray := by
            apply Array.ext'; simp
          have hsz : ((bs.data.toList.map fun (b : UInt8) => Value.int .u8 b.toNat) ++ List.replicate (cap - bs.size) (Value.int .u8 0)).toArray.size = cap := by
            simp only [List.size_toArray, List.length_append, List.length_replicate]; omega
          have hconv : (convert src dst (.string bs)).run P w = (Conv.stringToBytes e bs).run P w := by
            simp only [convert, Sem.run_bind, under_of ok hs, under_of ok hd, Result.andThen_ok]
            cases d <;> simp only [Sem.run_bind, under_of ok hu8, Result.andThen_ok]
          rw [hconv]
          simp only [Conv.stringToBytes, Sem.run_bind, run_choose, Question.forced, Bool.false_eq_true, if_false, Result.andThen_ok, World.drew_eq, newRow, run_newObj, World.alloc_eq, Sem.run_pure, markStringish, run_shape, hcap, hcells]
          have hh : (w.drew.alloc (.cells ((bs.data.toList.map fun (b : UInt8) => Value.int .u8 b.toNat) ++ List.replicate (cap - bs.size) (Value.int .u8 0)).toArray e)).heap[w.drew.heap.size]? = some (.cells ((bs.data.toList.map fun (b : UInt8) => Value.int .u8 b.toNat) ++ List.replicate (cap - bs.size) (Value.int .u8 0)).toArray e) := by
            rw [alloc_heap, if_pos rfl]
          rw [shape_of hh, hsz]
          simp only [run_freeze, freeze_new, Result.andThen_ok, Sem.run_pure]
          rfl
        obtain ⟨cap, hcp, hrun⟩ := hrun
        have hd' := h.draw
        have r1 := hd'.1.rowAt (ca := (bs.data.toList.map fun (b : UInt8) => Value.int .u8 b.toNat) ++ List.replicate (cap - bs.size) (Value.int .u8 0)) hb hn hg
          (by rw [List.take_append_of_le_length (Nat.le_refl _), List.take_of_length_le (Nat.le_refl _)]; exact map_u8 _) (by simp) (cap, cap + 1)
          (by
            intro i hi
            simp only [List.length_append, List.length_replicate] at hi
            simp only
            omega)
        refine ⟨_, _, w.drew, _, .slice (some ⟨w.heap.size, 0, none⟩) bs.size cap, ?_, .inr rfl, rfl, r1, ?_⟩
        · show ((do pure (.value (← convert src dst (cev tmps x))) : Sem Next).run P w) = _
          rw [hq]
          simp only [Sem.run_bind, hrun, Result.andThen_ok, Sem.run_pure]
        · have := VRel.sliceOpen (ρ := ρ.with b (bs.data.toList.map fun (b : UInt8) => Value.int .u8 b.toNat).length ⟨w.drew.heap.size, ((bs.data.toList.map fun (b : UInt8) => Value.int .u8 b.toNat) ++ List.replicate (cap - bs.size) (Value.int .u8 0)).length, (E.size e).getD 0, none⟩) (o := 0) (b := b) (hi := (bs.data.toList.map fun (b : UInt8) => Value.int .u8 b.toNat).length) bs.size cap (Ren.with_same _ _ _ _)
            (by rw [hez]; simp only [List.length_append, List.length_replicate, Option.getD_some]; omega) (by rw [hez]; exact Nat.one_pos)
          have e2 : bs.data.toList.length = bs.size := by simp
          rw [e2]
          exact this
      · cases h3
end
end Go.Eng

/- The abstract evaluator: what a plan's check says. -/
namespace Go.Eng
section
variable {E : Env}

def bit (anc : Array Nat) (i j : Nat) : Bool := (anc.getD i 0).testBit j

/-- What the check of a plan says. -/
structure PlanOk (E : Env) (ops : Array Oper) (anc : Array Nat) (actors : List Nat) (rest : List (Nat × Nat × Nat)) : Prop where
  edge : ∀ i o, ops[i]? = some o → ∀ e ∈ o.after.toList, Region.binds .any e = true → e.on < i
  leads : ∀ i o j, ops[i]? = some o → bit anc i j = true → ∃ e ∈ o.after.toList, Region.binds .any e = true ∧ (e.on = j ∨ bit anc e.on j = true)
  guard : ∀ i o j b, ops[i]? = some o → o.guard = some (j, b) → bit anc i j = true
  uniq : ∀ (i : Nat) (o : Oper) (j : Nat) (p : Oper) (t : Tmp), ops[i]? = some o → ops[j]? = some p → o.dst = some t → p.dst = some t → i = j
  clob : ∀ i o t, ops[i]? = some o → i ∉ actors → o.dst = some t → ∀ j p, ops[j]? = some p → reads t p = true → bit anc j i = true
  has : ∀ i o, ops[i]? = some o → i ∉ actors → ∃ est lst, (i, est, lst) ∈ rest
  rest : ∀ i est lst, (i, est, lst) ∈ rest → i ∉ actors ∧ est = (actors.filter fun a => bit anc i a).length ∧ lst = (actors.findIdx? fun a => bit anc a i).getD actors.length
  chain : chain anc actors = true
  range : ∀ i ∈ actors, i < ops.size

theorem links_bit {anc : Array Nat} {j : Nat} : ∀ (l : List Edge) (u : Nat), (l.foldl (fun u e => if Region.binds .any e then u ||| ((1 <<< e.on) ||| anc.getD e.on 0) else u) u).testBit j = true →
    u.testBit j = true ∨ ∃ e ∈ l, Region.binds .any e = true ∧ (e.on = j ∨ bit anc e.on j = true)
  | [], u, h => .inl h
  | e :: l, u, h => by
    rw [List.foldl_cons] at h
    rcases links_bit l _ h with h1 | ⟨e', h1, h2⟩
    · split at h1
      · rename_i hb
        rw [Nat.testBit_or, Nat.testBit_or, Bool.or_eq_true, Bool.or_eq_true] at h1
        rcases h1 with h1 | h1 | h1
        · exact .inl h1
        · rw [Nat.shiftLeft_eq, Nat.one_mul, Nat.testBit_two_pow] at h1
          exact .inr ⟨e, by simp, hb, .inl (by simpa using h1)⟩
        · exact .inr ⟨e, by simp, hb, .inr h1⟩
      · exact .inl h1
    · exact .inr ⟨e', by simp [h1], h2⟩

theorem mem_zip {ops : Array Oper} {o : Oper} {i : Nat} : (o, i) ∈ ops.toList.zipIdx ↔ ops[i]? = some o := by
  rw [List.mk_mem_zipIdx_iff_getElem?, Array.getElem?_toList]

theorem plan_ok {ops : Array Oper} (h : (plan E ops).ok = true) : PlanOk E ops (Region.before ops) (plan E ops).actors (plan E ops).rest := by
  simp only [plan, Bool.and_eq_true, List.all_eq_true] at h ⊢
  obtain ⟨hch, hall⟩ := h
  have hat : ∀ i o, ops[i]? = some o → okAt (Region.before ops) ops.toList.zipIdx o i = true := fun i o ho => hall (o, i) (mem_zip.2 ho)
  have hact : ∀ i, i ∈ acts E (Region.before ops) ops.toList.zipIdx ↔ ∃ o, ops[i]? = some o ∧ (cls E o = 2 ∨ clobbers (Region.before ops) ops.toList.zipIdx o i = true) := by
    intro i
    simp only [acts, List.mem_filterMap, Prod.exists]
    constructor
    · rintro ⟨o, j, h1, h2⟩
      split at h2
      · rename_i h3
        cases h2
        exact ⟨o, mem_zip.1 h1, by simpa using h3⟩
      · cases h2
    · rintro ⟨o, h1, h2⟩
      refine ⟨o, i, mem_zip.2 h1, ?_⟩
      rw [if_pos (by simpa using h2)]
  refine ⟨?_, ?_, ?_, ?_, ?_, ?_, ?_, hch, ?_⟩
  · intro i o ho e he hb
    have := hat i o ho
    simp only [okAt, Bool.and_eq_true, List.all_eq_true] at this
    have h1 := this.1.1.1 e he
    rw [hb] at h1
    simpa [Nat.blt_eq] using h1
  · intro i o j ho hj
    have := hat i o ho
    simp only [okAt, Bool.and_eq_true, Nat.beq_eq] at this
    have h1 := this.1.1.2
    unfold bit at hj
    rw [← h1, Nat.testBit_and, Bool.and_eq_true] at hj
    rcases links_bit _ _ hj.2 with h2 | h2
    · simp at h2
    · exact h2
  · intro i o j b ho hg
    have := hat i o ho
    simp only [okAt, Bool.and_eq_true] at this
    have h1 := this.1.2
    rw [hg] at h1
    exact h1
  · intro i o j p t ho hp hd hq
    have := hat i o ho
    simp only [okAt, Bool.and_eq_true] at this
    have h1 := this.2
    rw [hd] at h1
    simp only [List.all_eq_true] at h1
    have h2 := h1 (p, j) (mem_zip.2 hp)
    rw [hq] at h2
    simpa using h2
  · intro i o t ho hn hd j p hp hr
    rw [hact] at hn
    have h1 : clobbers (Region.before ops) ops.toList.zipIdx o i ≠ true := fun hc => hn ⟨o, ho, .inr hc⟩
    cases hbt : bit (Region.before ops) j i with
    | true => rfl
    | false =>
      refine absurd ?_ h1
      simp only [clobbers, hd, List.any_eq_true]
      refine ⟨(p, j), mem_zip.2 hp, ?_⟩
      unfold bit at hbt
      simp only [hr, hbt]
      rfl
  · intro i o ho hn
    simp only [List.mem_filterMap, Prod.exists]
    have hn' : ¬ (acts E (Region.before ops) ops.toList.zipIdx).contains i = true := by simpa using hn
    exact ⟨_, _, o, i, mem_zip.2 ho, if_neg hn'⟩
  · intro i est lst hm
    simp only [List.mem_filterMap, Prod.exists] at hm
    obtain ⟨o, j, h1, h2⟩ := hm
    split at h2
    · cases h2
    · rename_i hn
      cases h2
      exact ⟨by simpa using hn, rfl, rfl⟩
  · intro i hi
    rw [hact] at hi
    obtain ⟨o, ho, -⟩ := hi
    exact (Array.getElem?_eq_some_iff.1 ho).1

variable {ops : Array Oper} {anc : Array Nat} {actors : List Nat} {rest : List (Nat × Nat × Nat)}

/-- Whatever leads to an operation whose edges are all followed is listed. -/
theorem PlanOk.before (h : PlanOk E ops anc actors rest) {L : Nat → Prop} (hcl : ∀ i o, ops[i]? = some o → L i → ∀ e ∈ o.after.toList, Region.binds .any e = true → L e.on) :
    ∀ (i : Nat) (o : Oper), ops[i]? = some o → (∀ e ∈ o.after.toList, Region.binds .any e = true → L e.on) → ∀ j, bit anc i j = true → L j := by
  intro i
  induction i using Nat.strongRecOn with
  | ind i ih =>
    intro o ho hd j hj
    obtain ⟨e, he, hb, hor⟩ := h.leads i o j ho hj
    rcases hor with rfl | hor
    · exact hd e he hb
    · have hlt := h.edge i o ho e he hb
      have hi : i < ops.size := (Array.getElem?_eq_some_iff.1 ho).1
      have ho' : ops[e.on]? = some ops[e.on] := Array.getElem?_eq_getElem (by omega)
      exact ih e.on hlt _ ho' (hcl _ _ ho' (hd e he hb)) j hor

/-- If nothing is ready, all is listed. -/
theorem PlanOk.all (h : PlanOk E ops anc actors rest) {L : Nat → Prop} (hr : ∀ i o, ops[i]? = some o → (∀ e ∈ o.after.toList, Region.binds .any e = true → L e.on) → L i) :
    ∀ (i : Nat), i < ops.size → L i := by
  intro i
  induction i using Nat.strongRecOn with
  | ind i ih =>
    intro hi
    have ho : ops[i]? = some ops[i] := Array.getElem?_eq_getElem hi
    refine hr i _ ho fun e he hb => ?_
    have hlt := h.edge i _ ho e he hb
    exact ih e.on hlt (by omega)

/-- The stage at which an operation may be carried out. -/
theorem PlanOk.est_le (h : PlanOk E ops anc actors rest) {L : Nat → Prop} {done acts : List Nat} (hs : actors = done ++ acts) (ha : ∀ i ∈ acts, ¬ L i) {i est lst : Nat} (hm : (i, est, lst) ∈ rest)
    (hb : ∀ j, bit anc i j = true → L j) : est ≤ done.length := by
  obtain ⟨-, rfl, -⟩ := h.rest i est lst hm
  rw [hs, List.filter_append, List.length_append]
  have : acts.filter (fun a => bit anc i a) = [] := by
    rw [List.filter_eq_nil_iff]
    intro a hac hb'
    exact ha a hac (hb a hb')
  rw [this]
  simpa using List.length_filter_le _ _
theorem PlanOk.le_lst (h : PlanOk E ops anc actors rest) {L : Nat → Prop} {done acts : List Nat} (hs : actors = done ++ acts) (hdn : ∀ i ∈ done, ∀ j, bit anc i j = true → L j) {i est lst : Nat} (hm : (i, est, lst) ∈ rest)
    (hn : ¬ L i) : done.length ≤ lst := by
  obtain ⟨-, -, rfl⟩ := h.rest i est lst hm
  cases hf : actors.findIdx? fun a => bit anc a i with
  | none => rw [hs]; simp
  | some x =>
    simp only [Option.getD_some]
    rcases Nat.lt_or_ge x done.length with hlt | hge
    · exfalso
      rw [List.findIdx?_eq_some_iff_getElem] at hf
      obtain ⟨h1, h2, -⟩ := hf
      have hx : actors[x] = done[x] := by
        simp only [hs, List.getElem_append_left hlt]
      rw [hx] at h2
      exact hn (hdn _ (List.getElem_mem hlt) i h2)
    · exact hge
/-- Of the acting operations left only the first is ready. -/
theorem chain_first {anc : Array Nat} : ∀ {done acts : List Nat} {L : Nat → Prop}, chain anc (done ++ acts) = true → (∀ i ∈ acts, ¬ L i) → ∀ {i}, i ∈ acts → (∀ j, bit anc i j = true → L j) → ∃ tl, acts = i :: tl
  | [], a :: tl, L, hc, ha, i, hi, hb => by
    rcases List.mem_cons.1 hi with rfl | hi
    · exact ⟨tl, rfl⟩
    exfalso
    have key : ∀ (l : List Nat) (a : Nat), chain anc (a :: l) = true → i ∈ l → ∃ b ∈ a :: l, bit anc i b = true := by
      intro l
      induction l with
      | nil => intro a _ h; cases h
      | cons c l ih =>
        intro a hc hi
        simp only [chain, Bool.and_eq_true] at hc
        rcases List.mem_cons.1 hi with rfl | hi
        · exact ⟨a, by simp, hc.1⟩
        · obtain ⟨b, h1, h2⟩ := ih c hc.2 hi
          exact ⟨b, by simp only [List.mem_cons] at h1 ⊢; exact .inr h1, h2⟩
    obtain ⟨b, h1, h2⟩ := key tl a hc hi
    exact absurd (hb b h2) (ha b h1)
  | d :: done, acts, L, hc, ha, i, hi, hb => by
    refine chain_first (done := done) (L := L) ?_ ha hi hb
    cases hd : done ++ acts with
    | nil => simp [chain]
    | cons x xs =>
      rw [List.cons_append, hd] at hc
      simp only [chain, Bool.and_eq_true] at hc
      exact hc.2
end
end Go.Eng

/- The abstract evaluator: regions that draw their order, step by step. -/
namespace Go.Eng
section
variable {P : Program} {E : Env} {ρ ρ0 : Ren} {s s0 : St} {w w0 : World}

theorem put_n (fr : Fr) (dst : Option Tmp) (v : Value) : (fr.put dst v).n = fr.n := by
  cases dst with
  | none => rfl
  | some d => simp only [Fr.put]; cases Nat.blt d fr.n <;> rfl
theorem put_d (fr : Fr) (dst : Option Tmp) (v : Value) : (fr.put dst v).d = fr.d := by
  cases dst with
  | none => rfl
  | some d => simp only [Fr.put]; cases Nat.blt d fr.n <;> rfl
theorem put_tmp (fr : Fr) (dst : Option Tmp) (v : Value) (t : Tmp) : (fr.put dst v).tmp t = if dst = some t ∧ t < fr.n then v else fr.tmp t := by
  cases dst with
  | none => simp [Fr.put]
  | some d =>
    simp only [Fr.put]
    cases hb : Nat.blt d fr.n with
    | true =>
      rw [Nat.blt_eq] at hb
      simp only [cond, Fr.tmp, F.get_set]
      by_cases ht : t = d
      · subst ht; simp [hb]
      · simp [ht, Ne.symm ht]
    | false =>
      have hge : ¬ d < fr.n := fun hh => by rw [← Nat.blt_eq] at hh; rw [hh] at hb; cases hb
      simp only [cond]
      rw [if_neg]
      rintro ⟨h1, h2⟩
      cases h1
      exact hge h2

/-- The frame as the machine has it, beside the frame as the plan has it. -/
structure Shade (fr frS : Fr) (C : Tmp → Prop) : Prop where
  n : frS.n = fr.n
  d : frS.d = fr.d
  t : ∀ t, fr.n ≤ t ∨ C t → frS.tmp t = fr.tmp t

theorem onNext_shade {call : ANext → St → Option (AEnd × St)} {ir : Bool} {o : Oper} {fr frS fr1 : Fr} {s1 : St} {a : ANext} (hn : frS.n = fr.n) (hd : frS.d = fr.d)
    (h : onNext call ir o fr s a = some (.normal, fr1, s1)) :
    ∃ frS1, onNext call ir o frS s a = some (.normal, frS1, s1) ∧ fr1.n = fr.n ∧ frS1.n = fr1.n ∧ frS1.d = fr1.d ∧ ∀ t, frS.tmp t = fr.tmp t → frS1.tmp t = fr1.tmp t := by
  have key : ∀ v, (fr.put o.dst v).n = fr.n ∧ (frS.put o.dst v).n = (fr.put o.dst v).n ∧ (frS.put o.dst v).d = (fr.put o.dst v).d ∧ ∀ t, frS.tmp t = fr.tmp t → (frS.put o.dst v).tmp t = (fr.put o.dst v).tmp t := by
    intro v
    refine ⟨put_n _ _ _, by rw [put_n, put_n, hn], by rw [put_d, put_d, hd], fun t ht => ?_⟩
    rw [put_tmp, put_tmp, hn, ht]
  cases a with
  | val v s' => simp only [onNext] at h ⊢; cases h; exact ⟨_, rfl, key v⟩
  | skip s' => simp only [onNext] at h ⊢; cases h; exact ⟨_, rfl, key undef⟩
  | defer d =>
    simp only [onNext] at h ⊢
    split at h
    · cases h
    · rename_i hc
      cases h
      rw [if_neg hc]
      refine ⟨_, rfl, put_n _ _ _, by rw [put_n, put_n]; exact hn, by rw [put_d, put_d]; simp [hd], fun t ht => ?_⟩
      rw [put_tmp, put_tmp]
      show (if o.dst = some t ∧ t < frS.n then undef else frS.tmp t) = if o.dst = some t ∧ t < fr.n then undef else fr.tmp t
      rw [hn, ht]
  | recover =>
    simp only [onNext] at h ⊢
    split at h
    · cases h
    · rename_i hc
      cases h
      rw [if_neg hc]
      exact ⟨_, rfl, key _⟩
  | panic v => simp only [onNext] at h; cases h
  | enter f args =>
    simp only [onNext] at h ⊢
    split at h
    · rename_i v s' hc
      cases h
      exact ⟨_, rfl, key v⟩
    · cases h
    · cases h
  | round l args =>
    simp only [onNext] at h ⊢
    split at h
    · rename_i v s' hc
      cases h
      exact ⟨_, rfl, key v⟩
    · cases h
    · cases h

variable {ops : Array Oper} {anc : Array Nat} {actors : List Nat} {rest : List (Nat × Nat × Nat)}

/-- What entering a stage does. -/
theorem stage_enter {k : Nat} : ∀ {rest : List (Nat × Nat × Nat)} {fr : Fr} {s : St} {made : List (Nat × Nat)} {fr2 : Fr} {s2 : St} {made2 : List (Nat × Nat)}, stageF E ops k rest fr s made = some (fr2, s2, made2) →
    fr2.n = fr.n ∧ fr2.d = fr.d ∧ (∀ t, (fr.n ≤ t ∨ ∀ i est lst, (i, est, lst) ∈ rest → est = k → ∀ o, ops[i]? = some o → o.dst ≠ some t) → fr2.tmp t = fr.tmp t) ∧ s.nx ≤ s2.nx ∧
      (∀ b, b < s.nx → s2.h.get b = s.h.get b) ∧ (∀ x ∈ made2, x ∈ made ∨ (s.nx ≤ x.2 ∧ x.2 < s2.nx)) ∧
      (made.Pairwise (fun x y => y.2 < x.2) → (∀ x ∈ made, x.2 < s.nx) → made2.Pairwise (fun x y => y.2 < x.2) ∧ ∀ x ∈ made2, x.2 < s2.nx)
  | [], fr, s, made, fr2, s2, made2, h => by
    simp only [stageF] at h
    cases h
    exact ⟨rfl, rfl, fun _ _ => rfl, Nat.le_refl _, fun _ _ => rfl, fun x hx => .inl hx, fun h1 h2 => ⟨h1, h2⟩⟩
  | (i, est, lst) :: rest, fr, s, made, fr2, s2, made2, h => by
    simp only [stageF] at h
    split at h
    case isFalse =>
      obtain ⟨h1, h2, h3, h4⟩ := stage_enter h
      exact ⟨h1, h2, fun t ht => h3 t (ht.imp id fun hh i est lst hm => hh i est lst (by simp [hm])), h4⟩
    rename_i hk
    rw [Nat.beq_eq] at hk
    split at h
    · cases h
    rename_i o ho
    have tail : ∀ v, (∀ t, ((fr.put o.dst v).n ≤ t ∨ ∀ i est lst, (i, est, lst) ∈ rest → est = k → ∀ o, ops[i]? = some o → o.dst ≠ some t) → fr2.tmp t = (fr.put o.dst v).tmp t) →
        ∀ t, (fr.n ≤ t ∨ ∀ j e l, (j, e, l) ∈ (i, est, lst) :: rest → e = k → ∀ o, ops[j]? = some o → o.dst ≠ some t) → fr2.tmp t = fr.tmp t := by
      intro v h3 t ht
      rw [h3 t (ht.imp (by rw [put_n]; exact id) fun hh i est lst hm => hh i est lst (by simp [hm])), put_tmp, if_neg]
      rintro ⟨q1, q2⟩
      rcases ht with ht | ht
      · exact absurd q2 (Nat.not_lt.2 ht)
      · exact ht i est lst (by simp) hk o ho q1
    split at h
    · split at h
      · rename_i v s' hev
        split at h
        · obtain ⟨h1, h2, h3, h4, h5, h6⟩ := stage_enter h
          exact ⟨h1.trans (put_n _ _ _), h2.trans (put_d _ _ _), tail v h3, h4, h5, h6⟩
        · split at h
          · rename_i obj hob
            obtain ⟨h1, h2, h3, h4, h5, h6, h7⟩ := stage_enter h
            simp only [St.alloc] at h4 h5 h6 h7
            refine ⟨h1.trans (put_n _ _ _), h2.trans (put_d _ _ _), tail v h3, by omega, fun b hb => ?_, fun x hx => ?_, fun q1 q2 => ?_⟩
            · rw [h5 b (by omega), HQ.get_set, if_neg (by omega)]
            · rcases h6 x hx with h8 | h8
              · rcases List.mem_cons.1 h8 with rfl | h8
                · exact .inr ⟨Nat.le_refl _, by simp only; omega⟩
                · exact .inl h8
              · exact .inr ⟨by omega, h8.2⟩
            · refine h7 (List.pairwise_cons.2 ⟨fun x hx => q2 x hx, q1⟩) fun x hx => ?_
              rcases List.mem_cons.1 hx with rfl | hx
              · simp only; omega
              · have := q2 x hx; omega
          · cases h
        · cases h
      · cases h
    · obtain ⟨h1, h2, h3, h4, h5, h6⟩ := stage_enter h
      exact ⟨h1.trans (put_n _ _ _), h2.trans (put_d _ _ _), tail undef h3, h4, h5, h6⟩

theorem again_mem {k : Nat} {fr : Fr} {s : St} {made : List (Nat × Nat)} : ∀ {rest : List (Nat × Nat × Nat)}, againF E ops k fr s made rest = true → ∀ {i est lst : Nat}, (i, est, lst) ∈ rest → est ≤ k → k ≤ lst → ∀ {o : Oper}, ops[i]? = some o →
    (if wantedA ops fr o then againO E fr s made i o else same fr o.dst undef) = true
  | [], _, _, _, _, hm, _, _, _, _ => by cases hm
  | (i', est', lst') :: rest, h, i, est, lst, hm, h1, h2, o, ho => by
    simp only [againF, Bool.and_eq_true] at h
    rcases List.mem_cons.1 hm with hm | hm
    · cases hm
      have h3 := h.1
      rw [if_pos (by simp only [Nat.ble_eq]; exact ⟨h1, h2⟩)] at h3
      simp only [ho] at h3
      exact h3
    · exact again_mem h.2 hm h1 h2 ho

theorem same_put {fr : Fr} {dst : Option Tmp} {v : Value} (h : same fr dst v = true) : ∀ t, dst = some t → t < fr.n → fr.tmp t = v := by
  rintro t rfl ht
  simp only [same, Bool.or_eq_true, Bool.not_eq_true'] at h
  rcases h with h | h
  · rw [← Nat.blt_eq] at ht; rw [h] at ht; cases ht
  · exact (veq_eq h).symm

/-- Where a region that draws its order stands. -/
structure DInv (E : Env) (ops : Array Oper) (actors : List Nat) (ρ0 : Ren) (s0 : St) (w0 : World) (L : Nat → Prop) (done acts : List Nat) (fr frS : Fr) (s : St) (made : List (Nat × Nat)) (ρ : Ren) (w : World)
    (tmps : Array Value) (defers : List Deferred) : Prop where
  rel : Rel E ρ s w
  ev : Ev ρ0 s0 w0 ρ s w
  frel : FRel ρ frS tmps defers
  shade : Shade fr frS (fun t => ∀ i o, ops[i]? = some o → o.dst = some t → L i ∨ i ∈ acts)
  closed : ∀ i o, ops[i]? = some o → L i → ∀ e ∈ o.after.toList, Region.binds .any e = true → L e.on
  split : actors = done ++ acts
  done : ∀ i ∈ done, L i
  acts : ∀ i ∈ acts, ¬ L i
  blocks : ∀ x ∈ made, s0.nx ≤ x.2 ∧ x.2 < s.nx ∧ (¬ L x.1 → ∀ hi, ρ x.2 hi = none)
  apart : made.Pairwise (fun x y => y.2 < x.2)

theorem DInv.enter (hp : PlanOk E ops anc actors rest) {L : Nat → Prop} {k : Nat} {done acts : List Nat} {fr frS : Fr} {made : List (Nat × Nat)} {tmps : Array Value} {defers : List Deferred}
    (h : DInv E ops actors ρ0 s0 w0 L done acts fr frS s made ρ w tmps defers) (hk : ∀ i est lst, (i, est, lst) ∈ rest → est = k → ¬ L i) {fr2 : Fr} {s2 : St} {made2 : List (Nat × Nat)} (hst : stageF E ops k rest fr s made = some (fr2, s2, made2)) :
    DInv E ops actors ρ0 s0 w0 L done acts fr2 frS s2 made2 ρ w tmps defers := by
  obtain ⟨h1, h2, h3, h4, h5, h6, h7⟩ := stage_enter hst
  obtain ⟨h8, h9⟩ := h7 h.apart fun x hx => (h.blocks x hx).2.1
  refine ⟨⟨h.rel.glob, fun b hi hb => h.rel.fresh b hi (by omega), h.rel.own, fun b hi l e => ?_, fun b hi l q e hq => by
    obtain ⟨⟨cs, e0, wz, ex, q1⟩, q2⟩ := h.rel.ro b hi l q e hq
    exact ⟨⟨cs, e0, wz, ex, by rw [h5 b (h.rel.lt E e)]; exact q1⟩, q2⟩⟩, ⟨h.ev.le, h.ev.stays, h.ev.range, by have := h.ev.nx; omega, h.ev.os, h.ev.tape, h.ev.output, h.ev.size, h.ev.keep⟩, h.frel,
    ⟨h.shade.n.trans h1.symm, h.shade.d.trans h2.symm, fun t ht => ?_⟩, h.closed, h.split, h.done, h.acts, fun x hx => ?_, h8⟩
  · obtain ⟨o, o', q1, q2, q3⟩ := h.rel.obj b hi l e
    exact ⟨o, o', by rw [h5 b (h.rel.lt E e)]; exact q1, q2, q3⟩
  · rw [h1] at ht
    rw [h.shade.t t ht, h3 t (ht.imp id fun hc i est lst hm he o ho hd => ?_)]
    rcases hc i o ho hd with hl | ha
    · exact hk i est lst hm he hl
    · exact (hp.rest i est lst hm).1 (by rw [h.split]; exact List.mem_append.2 (.inr ha))
  · rcases h6 x hx with q | q
    · obtain ⟨q1, q2, q3⟩ := h.blocks x q
      exact ⟨q1, by omega, q3⟩
    · exact ⟨by have := h.ev.nx; omega, q.2, fun _ hi => h.rel.fresh _ _ q.1⟩

/-- What a ready operation reads is as the plan has it. -/
theorem DInv.reads_ok (hp : PlanOk E ops anc actors rest) {L : Nat → Prop} {done acts : List Nat} {fr frS : Fr} {made : List (Nat × Nat)} {tmps : Array Value} {defers : List Deferred}
    (h : DInv E ops actors ρ0 s0 w0 L done acts fr frS s made ρ w tmps defers) {i : Nat} {o : Oper} (ho : ops[i]? = some o) (hb : ∀ j, bit anc i j = true → L j) :
    (∀ s, evalOp E frS o s = evalOp E fr o s) ∧ wantedA ops frS o = wantedA ops fr o := by
  refine ⟨fun s => evalOp_congr fun x hx => ?_, ?_⟩
  · cases x with
    | tmp t =>
      simp only [eval]
      rw [h.shade.t t (.inr fun j p hj hd => ?_)]
      by_cases hja : j ∈ actors
      · rw [h.split, List.mem_append] at hja
        exact hja.imp (h.done j) id
      · refine .inl (hb j (hp.clob j p t hj hja hd i o ho ?_))
        simp only [reads, List.any_eq_true]
        exact ⟨_, hx, by simp⟩
    | const => rfl
    | global => rfl
    | func => rfl
  · unfold wantedA
    cases hg : o.guard with
    | none => rfl
    | some g =>
      obtain ⟨j, want⟩ := g
      have hl := hb j (hp.guard i o j want ho hg)
      simp only
      congr 1
      unfold yieldedA
      cases hd : (ops[j]?).bind (·.dst) with
      | none => rfl
      | some d =>
        simp only
        rw [h.shade.t d (.inr fun j' p hj' hd' => ?_)]
        cases hoj : ops[j]? with
        | none => rw [hoj] at hd; cases hd
        | some q =>
          rw [hoj] at hd
          simp only [Option.bind_some] at hd
          have := hp.uniq j q j' p d hoj hj' hd hd'
          subst this
          exact .inl hl

/-- AN OPERATION THAT DOES NOT ACT, where the machine carries it out. -/
theorem DInv.float (ok : E.Ok P) (hp : PlanOk E ops anc actors rest) {L : Nat → Prop} {done acts : List Nat} {fr frS : Fr} {made : List (Nat × Nat)} {tmps : Array Value} {defers : List Deferred}
    (h : DInv E ops actors ρ0 s0 w0 L done acts fr frS s made ρ w tmps defers) {i : Nat} {o : Oper} (ho : ops[i]? = some o) (hnl : ¬ L i) (hdep : ∀ e ∈ o.after.toList, Region.binds .any e = true → L e.on) (hna : i ∉ acts)
    (hag : againF E ops done.length fr s made rest = true) :
    ∃ frS' ρ' w' tmps', DInv E ops actors ρ0 s0 w0 (fun j => L j ∨ j = i) done acts fr frS' s made ρ' w' tmps' defers ∧
      ∀ (fn : FuncId) (kind : CallKind) (round : Option Nat) (r : List Nat) (K : List Item) (cs : List Frame),
        Steps P (lone (cfr fn kind round tmps defers (.inRegion ops (i :: r) :: K)) cs w) (lone (cfr fn kind round tmps' defers (.inRegion ops r :: K)) cs w') := by
  have hb := hp.before h.closed i o ho hdep
  obtain ⟨hev, hwa⟩ := h.reads_ok hp ho hb
  have hnact : i ∉ actors := by
    rw [h.split, List.mem_append]
    rintro (hd | ha)
    · exact hnl (h.done i hd)
    · exact hna ha
  obtain ⟨est, lst, hm⟩ := hp.has i o ho hnact
  have he := hp.est_le h.split h.acts hm hb
  have hl := hp.le_lst (L := L) h.split (fun a ha j hj => by
    have hai : a < ops.size := hp.range a (by rw [h.split]; exact List.mem_append.2 (.inl ha))
    have hao : ops[a]? = some ops[a] := Array.getElem?_eq_getElem hai
    exact hp.before h.closed a _ hao (h.closed a _ hao (h.done a ha)) j hj) hm hnl
  have hfact := again_mem hag hm he hl ho
  have hweq := wanted_eq (ρ := ρ) h.frel.t ops o
  rw [hwa] at hweq
  -- what is left to show, once the machine's step is known
  have close : ∀ (v v' : Value) (ρ' : Ren) (w' : World), Rel E ρ' s w' → Ev ρ0 s0 w0 ρ' s w' → ρ.le ρ' → VRel ρ' v v' → same fr o.dst v = true → (∀ x ∈ made, x.1 ≠ i → ¬ L x.1 → ∀ hi, ρ' x.2 hi = none) →
      (∀ (fn : FuncId) (kind : CallKind) (round : Option Nat) (r : List Nat) (K : List Item) (cs : List Frame),
        step P (lone (cfr fn kind round tmps defers (.inRegion ops (i :: r) :: K)) cs w) = .next (lone (cfr fn kind round (putT tmps o.dst v') defers (.inRegion ops r :: K)) cs w')) →
      ∃ frS' ρ' w' tmps', DInv E ops actors ρ0 s0 w0 (fun j => L j ∨ j = i) done acts fr frS' s made ρ' w' tmps' defers ∧
      ∀ (fn : FuncId) (kind : CallKind) (round : Option Nat) (r : List Nat) (K : List Item) (cs : List Frame),
        Steps P (lone (cfr fn kind round tmps defers (.inRegion ops (i :: r) :: K)) cs w) (lone (cfr fn kind round tmps' defers (.inRegion ops r :: K)) cs w') := by
    intro v v' ρ' w' q1 q2 q3 q4 q5 q6 q7
    refine ⟨frS.put o.dst v, ρ', w', putT tmps o.dst v', ⟨q1, q2, (h.frel.mono q3).put o.dst q4, ⟨by rw [put_n]; exact h.shade.n, by rw [put_d]; exact h.shade.d, fun t ht => ?_⟩, ?_, h.split, fun j hj => .inl (h.done j hj), ?_, fun x hx => ?_, h.apart⟩,
      fun fn kind round r K cs => .one (q7 fn kind round r K cs)⟩
    · rw [put_tmp, h.shade.n]
      split
      · rename_i hc
        exact (same_put q5 t hc.1 hc.2).symm
      · rename_i hc
        refine h.shade.t t ?_
        rcases ht with ht | ht
        · exact .inl ht
        · by_cases htn : t < fr.n
          · refine .inr fun j p hj hd => ?_
            rcases ht j p hj hd with (hlj | rfl) | ha
            · exact .inl hlj
            · rw [ho] at hj; cases hj; exact absurd ⟨hd, htn⟩ hc
            · exact .inr ha
          · exact .inl (Nat.le_of_not_lt htn)
    · intro j p hj hlj e hE hB
      rcases hlj with hlj | rfl
      · exact .inl (h.closed j p hj hlj e hE hB)
      · rw [ho] at hj; cases hj; exact .inl (hdep e hE hB)
    · rintro j hj (hlj | rfl)
      · exact h.acts j hj hlj
      · exact hna hj
    · obtain ⟨m1, m2, m3⟩ := h.blocks x hx
      refine ⟨m1, m2, fun hn => ?_⟩
      exact q6 x hx (fun hh => hn (.inr hh)) (fun hh => hn (.inl hh))
  split at hfact
  · rename_i hw
    have hwt : Region.wanted o (yielded ops tmps) = true := hweq ▸ hw
    unfold againO at hfact
    split at hfact
    · -- looks only
      rename_i hc0
      split at hfact
      · rename_i v s' hv
        obtain ⟨v0, hvv⟩ := cls0_stays hc0 hv
        cases hvv
        have hn := evalOp_ok ok h.rel h.frel.t (o := o) (a := .val v s) (by rw [hev]; exact hv)
        obtain ⟨ρ', w', v', n1, n2, n3, n4⟩ := hn
        have hnd : ∀ c, o.op ≠ .defer c := fun c hc => by
          obtain ⟨d, hd⟩ := defer_is hv ⟨c, hc⟩
          cases hd
        refine close v v' ρ' w' n2 (h.ev.trans n3) n3.le n4 hfact (fun x hx _ hn => ?_) fun fn kind round r K cs => st_opval ho hwt (.inr hnd) n1
        exact n3.stays x.2 (h.blocks x hx).2.1 ((h.blocks x hx).2.2 hn)
      · cases hfact
    · -- makes a block
      rename_i hc1
      split at hfact
      · rename_i i' b hfind
        have hmem := List.mem_of_find?_eq_some hfind
        have hi' : i' = i := by simpa using List.find?_some hfind
        subst hi'
        split at hfact
        · rename_i v s2 obj hv hg
          rw [Bool.and_eq_true] at hfact
          split at hfact
          · rename_i obj2 hg2
            obtain ⟨hs, hq⟩ := hfact
            have := oeq_eq hq
            subst this
            obtain ⟨m1, m2, m3⟩ := h.blocks _ hmem
            have hn := m3 hnl
            obtain ⟨hi, l, w1, o', v', p1, p2, p3, p4, p5⟩ := place_ok (P := P) ok h.rel h.frel.t hc1 (by rw [hev]; exact hv) m2 hn hg hg2
            have hnd : ∀ c, o.op ≠ .defer c := fun c hc => by
              obtain ⟨d, hd⟩ := defer_is hv ⟨c, hc⟩
              cases hd
            have hw1 : w1.heap = w.heap ∧ w1.os = w.os ∧ w1.tape = w.tape ∧ w1.output = w.output := by
              rcases p2 with rfl | rfl
              · exact ⟨rfl, rfl, rfl, rfl⟩
              · exact ⟨rfl, rfl, rfl, rfl⟩
            refine close v v' _ _ p4 ⟨fun b' hi' L' e => with_le hn _ _ _ (h.ev.le _ _ _ e), fun b' hb' e hi' => ?_, fun b' hi' L' e => ?_, h.ev.nx, hw1.2.1.trans h.ev.os, hw1.2.2.1.trans h.ev.tape, hw1.2.2.2.trans h.ev.output, ?_, fun c hc hnn => ?_⟩ (with_le hn) p5 hs (fun x hx hne hnx hi' => ?_)
              fun fn kind round r K cs => st_opval ho hwt (.inr hnd) p1
            · have hne : ¬ (b' = b ∧ hi' = hi) := fun hh => by have := hh.1; omega
              simp only [Ren.with, hne, if_false]
              exact h.ev.stays b' hb' e hi'
            · by_cases hbb : b' = b ∧ hi' = hi
              · obtain ⟨rfl, rfl⟩ := hbb
                rw [Ren.with_same] at e
                cases e
                have := h.ev.size
                exact .inl (by omega)
              · simp only [Ren.with, hbb, if_false] at e
                exact h.ev.range b' hi' L' e
            · have := h.ev.size
              simp only [World.alloc, Array.size_push, hw1.1]; omega
            · have := h.ev.size
              rw [alloc_heap, hw1.1, if_neg (by omega)]
              exact h.ev.keep c hc hnn
            · have hxb : x.2 ≠ b := by
                intro hh
                have hpw := h.apart
                have key : ∀ l : List (Nat × Nat), l.Pairwise (fun x y => y.2 < x.2) → x ∈ l → (i', b) ∈ l → x = (i', b) := by
                  intro l
                  induction l with
                  | nil => intro _ hx; cases hx
                  | cons y l ih =>
                    intro hpw hx hm
                    rw [List.pairwise_cons] at hpw
                    rcases List.mem_cons.1 hx with hx | hx <;> rcases List.mem_cons.1 hm with hm | hm
                    · rw [hx, hm]
                    · have := hpw.1 _ hm; rw [← hx] at this; simp only at this; omega
                    · have := hpw.1 _ hx; rw [← hm] at this; simp only at this; omega
                    · exact ih hpw.2 hx hm
                have := key made hpw hx hmem
                rw [this] at hne
                exact hne rfl
              have hne2 : ¬ (x.2 = b ∧ hi' = hi) := fun hh => hxb hh.1
              simp only [Ren.with, hne2, if_false]
              exact (h.blocks x hx).2.2 hnx hi'
          · cases hfact.2
        · cases hfact
      · cases hfact
    · cases hfact
  · rename_i hw
    have hwt : Region.wanted o (yielded ops tmps) = false := by rw [← hweq]; simpa using hw
    exact close undef undef ρ w h.rel h.ev (fun _ _ _ e => e) undef_rel hfact (fun x hx _ hn => (h.blocks x hx).2.2 hn) fun fn kind round r K cs => st_opskip ho hwt
end
end Go.Eng

/- The abstract evaluator: regions that draw their order are sound. -/
namespace Go.Eng
section
variable {P : Program} {E : Env} {ρ ρ0 : Ren} {s s0 : St} {w w0 : World}
variable {ops : Array Oper} {anc : Array Nat} {actors : List Nat} {rest : List (Nat × Nat × Nat)}

/-- AN OPERATION THAT ACTS. -/
theorem DInv.act (ok : E.Ok P) {call : ANext → St → Option (AEnd × St)} (hcall : ∀ a s r, call a s = some r → CallOk P E a s r) {ctx : Ctx} (hp : PlanOk E ops anc actors rest) {L : Nat → Prop} {done acts : List Nat} {fr frS : Fr} {made : List (Nat × Nat)} {tmps : Array Value} {defers : List Deferred} {i : Nat}
    (h : DInv E ops actors ρ0 s0 w0 L done (i :: acts) fr frS s made ρ w tmps defers) {o : Oper} (ho : ops[i]? = some o) (hdep : ∀ e ∈ o.after.toList, Region.binds .any e = true → L e.on)
    {fn : FuncId} {kind : CallKind} {round : Option Nat} {K : List Item} {cs : List Frame} {r : List Nat} (hc : CtxOk ρ ctx fn kind round cs)
    {fr1 : Fr} {s1 : St} (hops : opsF E call ctx.round.isSome ops [i] fr s = some (.normal, fr1, s1)) :
    ∃ frS1 ρ' w' tmps' defers', DInv E ops actors ρ0 s0 w0 (fun j => L j ∨ j = i) (done ++ [i]) acts fr1 frS1 s1 made ρ' w' tmps' defers' ∧ ρ.le ρ' ∧
      Steps P (lone (cfr fn kind round tmps defers (.inRegion ops (i :: r) :: K)) cs w) (lone (cfr fn kind round tmps' defers' (.inRegion ops r :: K)) cs w') := by
  have hb := hp.before h.closed i o ho hdep
  obtain ⟨hev, hwa⟩ := h.reads_ok hp ho hb
  have hni : ¬ L i := h.acts i (by simp)
  have hdn : i ∉ acts := by
    intro hi
    -- a chain's operations lead one to the next
    have hch : ∀ (d : List Nat) (l : List Nat) (a : Nat), chain anc (d ++ a :: l) = true → chain anc (a :: l) = true := by
      intro d
      induction d with
      | nil => intro l a h; exact h
      | cons x d ih =>
        intro l a h
        refine ih l a ?_
        cases hd : d ++ a :: l with
        | nil => simp [chain]
        | cons y ys =>
          rw [List.cons_append, hd] at h
          simp only [chain, Bool.and_eq_true] at h
          exact h.2
    have hc' := hch done acts i (by rw [← h.split]; exact hp.chain)
    have key : ∀ (l : List Nat) (a : Nat), chain anc (a :: l) = true → i ∈ l → ∃ b ∈ a :: l, bit anc i b = true := by
      intro l
      induction l with
      | nil => intro a _ h; cases h
      | cons c l ih =>
        intro a hc hi
        simp only [chain, Bool.and_eq_true] at hc
        rcases List.mem_cons.1 hi with rfl | hi
        · exact ⟨a, by simp, hc.1⟩
        · obtain ⟨b, h1, h2⟩ := ih c hc.2 hi
          exact ⟨b, by simp only [List.mem_cons] at h1 ⊢; exact .inr h1, h2⟩
    obtain ⟨b, h1, h2⟩ := key acts i hc' hi
    exact h.acts b h1 (hb b h2)
  have hweq := wanted_eq (ρ := ρ) h.frel.t ops o
  rw [hwa] at hweq
  -- what is left to show
  have close : ∀ (frS1 : Fr) (ρ' : Ren) (w' : World) (tmps' : Array Value) (defers' : List Deferred), Rel E ρ' s1 w' → Ev ρ s w ρ' s1 w' → FRel ρ' frS1 tmps' defers' → fr1.n = fr.n → frS1.n = fr1.n → frS1.d = fr1.d → (∀ t, frS.tmp t = fr.tmp t → frS1.tmp t = fr1.tmp t) →
      DInv E ops actors ρ0 s0 w0 (fun j => L j ∨ j = i) (done ++ [i]) acts fr1 frS1 s1 made ρ' w' tmps' defers' := by
    intro frS1 ρ' w' tmps' defers' q1 q2 q3 q4 q5 q6 q7
    refine ⟨q1, h.ev.trans q2, q3, ⟨q5, q6, fun t ht => q7 t (h.shade.t t ?_)⟩, ?_, by rw [h.split]; simp, ?_, ?_, fun x hx => ?_, h.apart⟩
    · rw [q4] at ht
      refine ht.imp id fun hc j p hj hd => ?_
      rcases hc j p hj hd with (hl | rfl) | ha
      · exact .inl hl
      · exact .inr (by simp)
      · exact .inr (by simp [ha])
    · intro j p hj hlj e hE hB
      rcases hlj with hlj | rfl
      · exact .inl (h.closed j p hj hlj e hE hB)
      · rw [ho] at hj; cases hj; exact .inl (hdep e hE hB)
    · intro j hj
      rcases List.mem_append.1 hj with hj | hj
      · exact .inl (h.done j hj)
      · exact .inr (by simpa using hj)
    · rintro j hj (hlj | rfl)
      · exact h.acts j (by simp [hj]) hlj
      · exact hdn hj
    · obtain ⟨m1, m2, m3⟩ := h.blocks x hx
      exact ⟨m1, by have := q2.nx; omega, fun hn => q2.stays x.2 m2 (m3 fun hh => hn (.inl hh))⟩
  simp only [opsF, ho] at hops
  split at hops
  · rename_i hw
    have hwt : Region.wanted o (yielded ops tmps) = true := hweq ▸ hw
    split at hops
    · rename_i a hva
      cases hon : onNext call ctx.round.isSome o fr s a with
      | none => rw [hon] at hops; cases hops
      | some r1 =>
        obtain ⟨e1, fr', s'⟩ := r1
        rw [hon] at hops
        cases e1 with
        | normal =>
          cases hops
          obtain ⟨frS1, p1, p2, p3, p4, p5⟩ := onNext_shade h.shade.n h.shade.d hon
          have hvS : evalOp E frS o s = some a := by rw [hev]; exact hva
          have hn := evalOp_ok ok h.rel h.frel.t hvS
          obtain ⟨ρ', w', tmps', defers', q1, q2, q3, q4⟩ := onNext_ok ok hcall (rest := r) (k := K) ho h.rel h.frel hc hwt hn p1 (defer_is hvS)
          exact ⟨frS1, ρ', w', tmps', defers', close frS1 ρ' w' tmps' defers' q1 q2 q3 p2 p3 p4 p5, q2.le, q4⟩
        | jump c => cases hops
        | panic c => cases hops
    · cases hops
  · rename_i hw
    have hwt : Region.wanted o (yielded ops tmps) = false := by rw [← hweq]; simpa using hw
    cases hops
    refine ⟨frS.put o.dst undef, ρ, w, _, defers, close _ ρ w _ defers h.rel (Ev.refl _ _ _) (h.frel.put o.dst undef_rel) (put_n _ _ _) ?_ ?_ ?_, fun _ _ _ e => e, .one (st_opskip ho hwt)⟩
    · rw [put_n, put_n]; exact h.shade.n
    · rw [put_d, put_d]; exact h.shade.d
    · intro t ht
      rw [put_tmp, put_tmp, h.shade.n, ht]

/-- What is left of the region after a stage has been entered. -/
def restF (E : Env) (call : ANext → St → Option (AEnd × St)) (ir : Bool) (ops : Array Oper) (rest : List (Nat × Nat × Nat)) (acts : List Nat) (k : Nat) (fr : Fr) (s : St) (made : List (Nat × Nat)) : Out :=
  match acts with
  | [] => some (.normal, fr, s)
  | i :: acts => match opsF E call ir ops [i] fr s with
    | some (.normal, fr, s) => stagesF E call ir ops rest acts (k + 1) fr s made
    | _ => none
theorem stages_some {call : ANext → St → Option (AEnd × St)} {ir : Bool} {acts : List Nat} {k : Nat} {fr : Fr} {s : St} {made : List (Nat × Nat)} {r : AExit × Fr × St} (h : stagesF E call ir ops rest acts k fr s made = some r) :
    ∃ fr2 s2 made2, stageF E ops k rest fr s made = some (fr2, s2, made2) ∧ againF E ops k fr2 s2 made2 rest = true ∧ restF E call ir ops rest acts k fr2 s2 made2 = some r := by
  unfold stagesF at h
  split at h
  · cases h
  · rename_i fr2 s2 made2 hst
    split at h
    · rename_i ha
      exact ⟨fr2, s2, made2, hst, ha, by unfold restF; cases acts <;> exact h⟩
    · cases h

theorem listed_set {listed : Array Bool} {i : Nat} (hi : i < listed.size) (j : Nat) : (listed.setIfInBounds i true).getD j false = true ↔ listed.getD j false = true ∨ j = i := by
  by_cases h : i = j
  · subst h
    simp [hi]
  · rw [getD_set_ne false h]
    constructor
    · exact .inl
    · rintro (hh | rfl)
      · exact hh
      · exact absurd rfl h

/-- A REGION IN A DRAWN ORDER. -/
theorem drawn_ok (ok : E.Ok P) {call : ANext → St → Option (AEnd × St)} (hcall : ∀ a s r, call a s = some r → CallOk P E a s r) {ctx : Ctx} (hp : PlanOk E ops anc actors rest)
    {fn : FuncId} {kind : CallKind} {round : Option Nat} {K : List Item} {cs : List Frame} (hc : CtxOk ρ0 ctx fn kind round cs) {res : AExit × Fr × St} :
    ∀ (fuel t : Nat) (listed : Array Bool) {done acts : List Nat} {fr frS : Fr} {s : St} {made : List (Nat × Nat)} {ρ : Ren} {w : World} {tmps : Array Value} {defers : List Deferred},
      DInv E ops actors ρ0 s0 w0 (fun j => listed.getD j false = true) done acts fr frS s made ρ w tmps defers → listed.size = ops.size → listed.toList.count false ≤ fuel → againF E ops done.length fr s made rest = true →
      restF E call ctx.round.isSome ops rest acts done.length fr s made = some res →
      ∃ ρ' w' tmps' defers', Rel E ρ' res.2.2 w' ∧ Ev ρ0 s0 w0 ρ' res.2.2 w' ∧ FRel ρ' res.2.1 tmps' defers' ∧ res.1 = .normal ∧
        Steps P (lone (cfr fn kind round tmps defers (.inRegion ops (Region.linearise.go .any ops fuel t listed []) :: K)) cs w) (lone (cfr fn kind round tmps' defers' K) cs w') := by
  have finish : ∀ {listed : Array Bool} {done acts : List Nat} {fr frS : Fr} {s : St} {made : List (Nat × Nat)} {ρ : Ren} {w : World} {tmps : Array Value} {defers : List Deferred},
      DInv E ops actors ρ0 s0 w0 (fun j => listed.getD j false = true) done acts fr frS s made ρ w tmps defers → (∀ i, i < ops.size → listed.getD i false = true) →
      restF E call ctx.round.isSome ops rest acts done.length fr s made = some res →
      ∃ ρ' w' tmps' defers', Rel E ρ' res.2.2 w' ∧ Ev ρ0 s0 w0 ρ' res.2.2 w' ∧ FRel ρ' res.2.1 tmps' defers' ∧ res.1 = .normal ∧
        Steps P (lone (cfr fn kind round tmps defers (.inRegion ops [] :: K)) cs w) (lone (cfr fn kind round tmps' defers' K) cs w') := by
    intro listed done acts fr frS s made ρ w tmps defers h hall hr
    have hacts : acts = [] := by
      cases acts with
      | nil => rfl
      | cons a acts =>
        exfalso
        exact h.acts a (by simp) (hall a (hp.range a (by rw [h.split]; simp)))
    subst hacts
    simp only [restF] at hr
    cases hr
    have ht : ∀ t, frS.tmp t = fr.tmp t := fun t => h.shade.t t (.inr fun i o hi _ => .inl (hall i (Array.getElem?_eq_some_iff.1 hi).1))
    refine ⟨ρ, w, tmps, defers, h.rel, h.ev, ⟨⟨h.shade.n ▸ h.frel.t.n, fun i => ?_⟩, h.shade.d ▸ h.frel.d⟩, rfl, .one st_end⟩
    have := h.frel.t.v i
    have e := ht i
    unfold Fr.tmp at e
    rw [← e]; exact this
  intro fuel
  induction fuel with
  | zero =>
    intro t listed done acts fr frS s made ρ w tmps defers h hsz hcount hag hr
    simp only [Region.linearise.go, List.reverse_nil]
    refine finish h (fun i hi => ?_) hr
    have h0 : listed.toList.count false = 0 := by omega
    rw [List.count_eq_zero] at h0
    have hlt : i < listed.size := hsz ▸ hi
    have : listed[i] ≠ false := fun hh => h0 (by rw [← hh]; simp)
    simp [hlt, this]
  | succ fuel ih =>
    intro t listed done acts fr frS s made ρ w tmps defers h hsz hcount hag hr
    simp only [Region.linearise.go]
    generalize hrs : (List.filter (fun i => !listed.getD i true && (Option.map (fun x => x.after.all fun e => !Region.binds Region.Mode.any e || listed.getD e.on false) ops[i]?).getD false) (List.range ops.size)) = rs
    have hready : ∀ i, i ∈ rs ↔ listed.getD i true = false ∧ ∃ o, ops[i]? = some o ∧ ∀ e ∈ o.after, Region.binds .any e = true → listed.getD e.on false = true := by
      intro i
      rw [← hrs]
      exact mem_ready
    cases hi : rs[t % rs.length]? with
    | none =>
      have hnil : rs = [] := by
        cases hrr : rs with
        | nil => rfl
        | cons x xs =>
          rw [hrr] at hi
          have hlt : t % (x :: xs).length < (x :: xs).length := Nat.mod_lt _ (by simp)
          rw [List.getElem?_eq_getElem hlt] at hi
          cases hi
      simp only [List.reverse_nil]
      refine finish h (hp.all (L := fun j => listed.getD j false = true) fun i o ho hd => ?_) hr
      have hlt : i < listed.size := hsz ▸ (Array.getElem?_eq_some_iff.1 ho).1
      cases hl : listed.getD i true with
      | true => simpa [hlt] using hl
      | false =>
        have : i ∈ rs := (hready i).2 ⟨hl, o, ho, fun e he => hd e (by simpa using he)⟩
        rw [hnil] at this
        cases this
    | some i =>
      simp only []
      rw [linearise_go_acc, List.reverse_singleton, List.singleton_append]
      obtain ⟨hl, o, ho, hd⟩ := (hready i).1 (List.mem_of_getElem? hi)
      have hlt : i < listed.size := hsz ▸ (Array.getElem?_eq_some_iff.1 ho).1
      have hli : listed[i] = false := by simpa [hlt] using hl
      have hnl : ¬ listed.getD i false = true := by simp [hlt, hli]
      have hdep : ∀ e ∈ o.after.toList, Region.binds .any e = true → listed.getD e.on false = true := fun e he => hd e (by simpa using he)
      have hset : (fun j => listed.getD j false = true ∨ j = i) = fun j => (listed.setIfInBounds i true).getD j false = true := by
        funext j
        exact propext (listed_set hlt j).symm
      have hsz' : (listed.setIfInBounds i true).size = ops.size := by simpa using hsz
      have hcount' : (listed.setIfInBounds i true).toList.count false ≤ fuel := by
        have e1 : (listed.setIfInBounds i true).toList = listed.toList.set i true := by simp [Array.toList_setIfInBounds]
        rw [e1, List.count_set (by simpa using hlt)]
        simp only [Array.getElem_toList, hli]
        show listed.toList.count false - 1 + 0 ≤ fuel
        omega
      by_cases ha : i ∈ acts
      · obtain ⟨tl, rfl⟩ := chain_first (anc := anc) (done := done) (L := fun j => listed.getD j false = true) (by rw [← h.split]; exact hp.chain) h.acts ha (hp.before h.closed i o ho hdep)
        simp only [restF] at hr
        cases hop : opsF E call ctx.round.isSome ops [i] fr s with
        | none => rw [hop] at hr; cases hr
        | some r1 =>
          obtain ⟨e1, fr1, s1⟩ := r1
          rw [hop] at hr
          cases e1 with
          | normal =>
            simp only at hr
            obtain ⟨fr2, s2, made2, hst, hag2, hr2⟩ := stages_some hr
            obtain ⟨frS1, ρ1, w1, tmps1, defers1, h1, hle, hsteps⟩ := h.act ok hcall hp ho hdep (K := K) (r := Region.linearise.go .any ops fuel (t / rs.length) (listed.setIfInBounds i true) []) (hc.mono h.ev.le) hop
            have hlen : (done ++ [i]).length = done.length + 1 := by simp
            have h2 := h1.enter hp (k := done.length + 1) (fun j est lst hm he hL => ?_) hst
            · rw [hset] at h2
              obtain ⟨ρ', w', tmps', defers', p1, p2, p3, p4, p5⟩ := ih (t / rs.length) _ h2 hsz' hcount' (by rw [hlen]; exact hag2) (by rw [hlen]; exact hr2)
              exact ⟨ρ', w', tmps', defers', p1, p2, p3, p4, hsteps.trans p5⟩
            · -- what is listed was of an earlier stage
              have hji : j ≠ i := by
                rintro rfl
                exact (hp.rest j est lst hm).1 (by rw [h.split]; simp)
              rcases hL with hL | hL
              · have hjr := (hp.rest j est lst hm).2.1
                have hjo : ∃ oj, ops[j]? = some oj := by
                  have : j < listed.size := by
                    rcases Nat.lt_or_ge j listed.size with h' | h'
                    · exact h'
                    · simp [Array.getElem?_eq_none h', Nat.not_lt.2 h'] at hL
                  exact ⟨_, Array.getElem?_eq_getElem (hsz ▸ this)⟩
                obtain ⟨oj, hoj⟩ := hjo
                have := hp.est_le (L := fun j => listed.getD j false = true) h.split h.acts hm (hp.before h.closed j oj hoj (h.closed j oj hoj hL))
                omega
              · exact hji hL
          | jump c => cases hr
          | panic c => cases hr
      · obtain ⟨frS', ρ1, w1, tmps1, h1, hsteps⟩ := h.float ok hp ho hnl hdep ha hag
        rw [hset] at h1
        obtain ⟨ρ', w', tmps', defers', p1, p2, p3, p4, p5⟩ := ih (t / rs.length) _ h1 hsz' hcount' hag hr
        exact ⟨ρ', w', tmps', defers', p1, p2, p3, p4, (hsteps fn kind round _ K cs).trans p5⟩

theorem draw_world (h : Rel E ρ s w) : Rel E ρ s w.drew ∧ Ev ρ s w ρ s w.drew := h.draw

/-- A REGION. -/
theorem regionF_ok (ok : E.Ok P) (hmix : P.follows .mixedOrders = true) {call : ANext → St → Option (AEnd × St)} (hcall : ∀ a s r, call a s = some r → CallOk P E a s r) {ctx : Ctx} {id : Nat} {ops : Array Oper} {draw : Bool} {fr : Fr} {s : St} {r : AExit × Fr × St}
    (h : regionF E call ctx.round.isSome ops draw fr s = some r) : From P E ctx [.code (.region id ops draw)] fr s r := by
  unfold regionF at h
  cases draw with
  | false =>
    simp only [Bool.false_eq_true, if_false] at h
    intro ρ w tmps defers fn kind round k cs hr hf hc
    obtain ⟨ρ', w', tmps', defers', h1, h2, h3, h4⟩ := opsF_ok ok hcall _ h ρ w tmps defers fn kind round k cs hr hf hc
    exact ⟨ρ', w', tmps', defers', h1, h2, h3, h4.of_steps (.one st_region)⟩
  | true =>
    simp only [if_true] at h
    split at h
    · rename_i hpl
      intro ρ w tmps defers fn kind round k cs hr hf hc
      have hp := plan_ok hpl
      obtain ⟨fr2, s2, made2, hst, hag, hrest⟩ := stages_some h
      obtain ⟨hd1, hd2⟩ := hr.draw
      have h0 : DInv E ops (plan E ops).actors ρ s w.drew (fun j => (Array.replicate ops.size false).getD j false = true) [] (plan E ops).actors fr fr s [] ρ w.drew tmps defers := by
        have hno : ∀ j, ¬ (Array.replicate ops.size false).getD j false = true := by
          intro j
          by_cases hj : j < ops.size <;> simp [hj]
        exact ⟨hd1, Ev.refl _ _ _, hf, ⟨rfl, rfl, fun _ _ => rfl⟩, fun i o _ hl => absurd hl (hno i), rfl, fun i hi => (by cases hi), fun i _ => hno i, fun x hx => (by cases hx), .nil⟩
      have h1 := h0.enter hp (k := 0) (fun j est lst _ _ hl => by
        by_cases hj : j < ops.size <;> simp [hj] at hl) hst
      obtain ⟨ρ', w', tmps', defers', p1, p2, p3, p4, p5⟩ := drawn_ok ok hcall hp hc (K := k) ops.size (w.tape w.drawn (.order fn id)) (Array.replicate ops.size false) h1 (by simp) (by
        rw [Array.toList_replicate, List.count_replicate]; simp) hag hrest
      refine ⟨ρ', w', tmps', defers', p1, hd2.trans p2, p3, ?_⟩
      rw [p4]
      have hstep := st_draw (P := P) (fn := fn) (kind := kind) (round := round) (tmps := tmps) (defers := defers) (k := k) (cs := cs) (w := w) (id := id) (ops := ops)
      simp only [Region.schedule, hmix, Bool.true_or, if_true] at hstep
      exact .head hstep p5
    · cases h
end
end Go.Eng

/- The abstract evaluator is sound. -/
namespace Go.Eng
section
variable {P : Program} {E : Env}


theorem condF_ok {exec : Ctx → Code → Fr → St → Out} (hexec : ∀ ctx c fr s r, exec ctx c fr s = some r → From P E ctx [.code c] fr s r) {ctx : Ctx} {c : Operand} {a b : Code} {fr : Fr} {s : St} {r : AExit × Fr × St}
    {t : Bool} (hc : eval E fr c = some (.bool t)) (hr : exec ctx (if t then a else b) fr s = some r) : From P E ctx [.code (.cond c a b)] fr s r := by
  intro ρ w tmps defers fn kind round k cs h hf hx
  have hv := eval_ok h hf.t hc
  have hcc : cev tmps c = .bool t := by
    generalize cev tmps c = q at hv
    cases hv; rfl
  obtain ⟨ρ', w', tmps', defers', q1, q2, q3, q4⟩ := hexec _ _ _ _ _ hr ρ w tmps defers fn kind round k cs h hf hx
  exact ⟨ρ', w', tmps', defers', q1, q2, q3, q4.of_steps (.one (st_cond hcc))⟩

theorem execF_ok (ok : E.Ok P) (hmix : P.follows .mixedOrders = true) {exec : Ctx → Code → Fr → St → Out} {call : ANext → St → Option (AEnd × St)}
    (hexec : ∀ ctx c fr s r, exec ctx c fr s = some r → From P E ctx [.code c] fr s r) (hcall : ∀ a s r, call a s = some r → CallOk P E a s r) {ctx : Ctx} {c : Code} {fr : Fr} {s : St} {r : AExit × Fr × St}
    (hr : execF E exec call ctx c fr s = some r) : From P E ctx [.code c] fr s r := by
  cases c <;> simp only [execF] at hr
  case skip => cases hr; exact From.now fun _ _ _ _ _ _ _ _ => st_skip
  case label l => cases hr; exact From.now fun _ _ _ _ _ _ _ _ => st_label
  case ret => cases hr; exact From.jumps trivial
  case exit i => cases hr; exact From.jumps fun k => by simp
  case goto l => cases hr; exact From.jumps fun k => by simp
  case seq a b => exact seqF_ok hexec hr
  case cond c a b =>
    split at hr
    · rename_i hc; exact condF_ok hexec (t := true) hc hr
    · rename_i hc; exact condF_ok hexec (t := false) hc hr
    · cases hr
  case block id c => exact blockF_ok hexec hr
  case loop c => cases hr
  case scope c => cases hr
  case rangeFunc f ps a b => exact rangeFuncF_ok ok hexec hcall hr
  case region id ops draw => exact regionF_ok ok hmix hcall hr
  case refuse r => cases hr

theorem callA_ok (ok : E.Ok P) (horc : E.True P) {exec : Ctx → Code → Fr → St → Out} {call : ANext → St → Option (AEnd × St)}
    (hexec : ∀ ctx c fr s r, exec ctx c fr s = some r → From P E ctx [.code c] fr s r) (hcall : ∀ a s r, call a s = some r → CallOk P E a s r) {a : ANext} {s : St} {r : AEnd × St}
    (hr : callA E exec call a s = some r) : CallOk P E a s r := by
  cases a <;> simp only [callA] at hr
  case enter f args => exact enterF_ok ok horc hexec hcall hr
  case round l args => exact roundF_ok hexec hr
  all_goals cases hr

/-- THE EVALUATOR'S ANSWER IS THE MACHINE's. -/
theorem exec_ok (ok : E.Ok P) (hmix : P.follows .mixedOrders = true) (horc : E.True P) : ∀ n, (∀ ctx c fr s r, exec E n ctx c fr s = some r → From P E ctx [.code c] fr s r) ∧ (∀ a s r, exec.call E n a s = some r → CallOk P E a s r)
  | 0 => ⟨fun _ _ _ _ _ h => by simp [exec] at h, fun _ _ _ h => by simp [exec.call] at h⟩
  | n + 1 => by
    obtain ⟨h1, h2⟩ := exec_ok ok hmix horc n
    refine ⟨fun ctx c fr s r hr => ?_, fun a s r hr => ?_⟩
    · by_cases hs : ∃ b, c = .scope b
      · obtain ⟨b, rfl⟩ := hs
        simp only [exec] at hr
        exact (scopeF_ok h1 n hr).steps fun _ _ _ _ _ _ _ _ => .one st_scope
      by_cases hl : ∃ b, c = .loop b
      · obtain ⟨b, rfl⟩ := hl
        simp only [exec] at hr
        exact (loopF_ok h1 100000 hr).steps fun _ _ _ _ _ _ _ _ => .one st_loop
      · have : execF E (exec E n) (exec.call E n) ctx c fr s = some r := by
          rw [← hr]
          cases c <;> first | rfl | exact absurd ⟨_, rfl⟩ hs | exact absurd ⟨_, rfl⟩ hl
        exact execF_ok ok hmix h1 h2 this
    · simp only [exec.call] at hr
      exact callA_ok ok horc h1 h2 hr
end
end Go.Eng

/- The abstract evaluator: a call, as the kit says it. -/
namespace Go.Eng
section
variable {P : Program} {E : Env}

/-- A call that the evaluator has gone through. -/
theorem exec_calls (ok : E.Ok P) (hmix : P.follows .mixedOrders = true) (horc : E.True P) {n : Nat} {f : FuncId} {args : List Value} {s s' : St} {v : Value} (ho : E.orc f args s = none)
    (hr : exec.call E n (.enter f args) s = some (.ret v, s')) {ρ : Ren} {w : World} {args' : List Value} (h : Rel E ρ s w) (ha : VRels ρ args args') :
    Calls P f args'.toArray w fun e w' => ∃ ρ' v', e = .returned v' ∧ Rel E ρ' s' w' ∧ Ev ρ s w ρ' s' w' ∧ VRel ρ' v v' := by
  cases n with
  | zero => simp [exec.call] at hr
  | succ n =>
  obtain ⟨hexec, hcall⟩ := exec_ok ok hmix horc n
  simp only [exec.call, callA] at hr
  unfold enterF at hr
  rw [ho] at hr
  simp only at hr
  split at hr
  case h_2 => cases hr
  rename_i fn hfn
  have hP := ok.ft f fn hfn
  split at hr
  case h_2 => cases hr
  rename_i body hb
  intro cs
  have hctx : CtxOk ρ ⟨f, none⟩ f .normal none cs := ⟨rfl, .inl ⟨rfl, rfl⟩, .inl rfl⟩
  have hfr : FRel ρ ⟨F.ofList args, max args.length fn.ntmps, []⟩ (args'.toArray ++ Array.replicate (fn.ntmps - args'.toArray.size) undef) [] := ⟨trel_args ha fn.ntmps, .nil⟩
  rw [enter_eq hP hb]
  have fin : ∀ {ρ1 : Ren} {w1 : World} {fr1 : Fr} {s1 : St} {tmps1 : Array Value} {defers1 : List Deferred} {todo : List Item}, Rel E ρ1 s1 w1 → Ev ρ s w ρ1 s1 w1 → FRel ρ1 fr1 tmps1 defers1 → leaveF E (exec.call E n) fn fr1 s1 = some (.ret v, s') →
      ∃ ρ' w' v', Rel E ρ' s' w' ∧ Ev ρ s w ρ' s' w' ∧ VRel ρ' v v' ∧ Steps P (lone (rfr f .normal tmps1 defers1 todo) cs w1) (lone (rfr f .normal tmps1 [] todo) cs w') ∧ (results fn tmps1).run P w' = .ok v' w' := by
    intro ρ1 w1 fr1 s1 tmps1 defers1 todo q1 q2 q3 hl
    unfold leaveF at hl
    split at hl
    · rename_i s2 hd
      split at hl
      · rename_i vs hvs
        cases hl
        obtain ⟨ρ2, w2, u1, u2, u3⟩ := defersF_ok ok hcall (fn := f) (kind := .normal) (tmps := tmps1) (k := todo) (cs := cs) _ hd q1 q3.d
        obtain ⟨v', t1, t2⟩ := results_ok (P := P) ok u1 (q3.mono u2.le).t hvs
        exact ⟨ρ2, w2, v', u1, q2.trans u2, t2, u3, t1⟩
      · cases hl
    · cases hl
  split at hr
  · rename_i fr1 s1 hx
    obtain ⟨ρ1, w1, tmps1, defers1, q1, q2, q3, q4⟩ := hexec _ _ _ _ _ hx ρ w _ [] f .normal none [] cs h hfr hctx
    obtain ⟨ρ', w', v', u1, u2, u3, u4, u5⟩ := fin (todo := []) q1 q2 q3 hr
    exact ⟨.returned v', w', rfr f .normal tmps1 [] [], ⟨ρ', v', rfl, u1, u2, u3⟩, (Steps.trans q4 (.one (st_leave_end (P := P)))).trans u4, rfl, rfl, rfl, rfl, fn, hP, u5⟩
  · rename_i fr1 s1 hx
    obtain ⟨ρ1, w1, tmps1, defers1, q1, q2, q3, pre, -, q4⟩ := hexec _ _ _ _ _ hx ρ w _ [] f .normal none [] cs h hfr hctx
    obtain ⟨ρ', w', v', u1, u2, u3, u4, u5⟩ := fin (todo := .code .ret :: pre ++ []) q1 q2 q3 hr
    exact ⟨.returned v', w', rfr f .normal tmps1 [] (.code .ret :: pre ++ []), ⟨ρ', v', rfl, u1, u2, u3⟩, (Steps.trans q4 (.one (st_leave_ret (P := P)))).trans u4, rfl, rfl, rfl, rfl, fn, hP, u5⟩
  · split at hr <;> cases hr
  · cases hr
end
end Go.Eng
