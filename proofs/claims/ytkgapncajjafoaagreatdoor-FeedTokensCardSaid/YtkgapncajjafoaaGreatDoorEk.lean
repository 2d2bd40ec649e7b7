/- The abstract evaluator of the model, part k: definitions and laws, of no program. -/
import Derived.Test.YtkgapncajjafoaaGreatDoorEj
set_option linter.all false
/- The abstract evaluator: pieces of code put together, frames told by what they hold. -/
namespace Go.Eng
section
variable {P : Program} {E : Env}
/-- A frame counts by what it holds. -/
theorem From.frame {ctx : Ctx} {items : List Item} {t t2 : F} {N : Nat} {d : List Deferred} {s : St} {r : AExit × Fr × St} (h : From P E ctx items ⟨t2, N, d⟩ s r) (hg : ∀ i, t.get i = t2.get i) : From P E ctx items ⟨t, N, d⟩ s r := by
  intro ρ w tmps defers fn kind round k cs q1 q2 q3
  exact h ρ w tmps defers fn kind round k cs q1 ⟨⟨q2.t.n, fun i => by rw [← hg]; exact q2.t.v i⟩, q2.d⟩ q3
theorem From.seq {ctx : Ctx} {a b : Code} {fr fr1 : Fr} {s s1 : St} {r : AExit × Fr × St} (h1 : From P E ctx [.code a] fr s (.normal, fr1, s1)) (h2 : From P E ctx [.code b] fr1 s1 r) : From P E ctx [.code (.seq a b)] fr s r :=
  (h1.andThen h2).steps fun _ _ _ _ _ _ _ _ => .one st_seq
/-- Other blocks may be made beside. -/
theorem Rel.below {ρ : Ren} {s : St} {w w1 : World} (h : Rel E ρ s w) (hs : w.heap.size ≤ w1.heap.size) (hb : ∀ i, i < w.heap.size → w1.heap[i]? = w.heap[i]?) : Rel E ρ s w1 where
  glob := h.glob
  fresh := h.fresh
  own := h.own
  obj := fun b hi L e => by
    obtain ⟨o, o', h1, h2, h3⟩ := h.obj b hi L e
    exact ⟨o, o', h1, by rw [hb _ (h.clt E e)]; exact h2, h3⟩
  ro := fun b hi L q e hq => by
    obtain ⟨h1, ca, e1, h2⟩ := h.ro b hi L q e hq
    exact ⟨h1, ca, e1, by rw [hb _ (h.clt E e)]; exact h2⟩
theorem Ev.below {ρ : Ren} {s : St} {w w1 : World} (hs : w.heap.size ≤ w1.heap.size) (hb : ∀ i, i < w.heap.size → w1.heap[i]? = w.heap[i]?) (ho : w1.os = w.os) (ht : w1.tape = w.tape) (hu : w1.output = w.output) : Ev ρ s w ρ s w1 :=
  ⟨fun _ _ _ h => h, fun _ _ h => h, fun b hi L h => .inr ⟨hi, L, h, rfl⟩, Nat.le_refl _, ho, ht, hu, hs, fun c hc _ => hb c hc⟩
/-- One call, as a function. -/
noncomputable def pointCall (a : ANext) (s : St) (r : AEnd × St) : ANext → St → Option (AEnd × St) := fun a' s' => @ite _ (a' = a ∧ s' = s) (Classical.propDecidable _) (some r) none
theorem pointCall_at (a : ANext) (s : St) (r : AEnd × St) : pointCall a s r a s = some r := by unfold pointCall; rw [if_pos ⟨rfl, rfl⟩]
theorem pointCall_ok {a : ANext} {s : St} {r : AEnd × St} (h : CallOk P E a s r) : ∀ a' s' r', pointCall a s r a' s' = some r' → CallOk P E a' s' r' := by
  intro a' s' r' hr
  unfold pointCall at hr
  split at hr
  · rename_i hh; obtain ⟨rfl, rfl⟩ := hh; cases hr; exact h
  · cases hr
/-- A function's body gone through gives its call. -/
theorem body_calls (ok : E.Ok P) {call : ANext → St → Option (AEnd × St)} (hcall : ∀ a s r, call a s = some r → CallOk P E a s r) {f : FuncId} {fn : Func} {body : Code} (hfn : E.ft.get f = some fn) (hb : fn.body = some body) (ho : ∀ args s, E.orc f args s = none)
    {args : List Value} {s s1 s' : St} {fr1 : Fr} {v : Value} {e : AExit} (he : e = .normal ∨ e = .jump .ret) (hx : From P E ⟨f, none⟩ [.code body] ⟨F.ofList args, max args.length fn.ntmps, []⟩ s (e, fr1, s1)) (hl : leaveF E call fn fr1 s1 = some (.ret v, s')) :
    ∀ {ρ : Ren} {w : World} {args' : List Value}, Rel E ρ s w → VRels ρ args args' → Calls P f args'.toArray w fun e w' => ∃ ρ' v', e = .returned v' ∧ Rel E ρ' s' w' ∧ Ev ρ s w ρ' s' w' ∧ VRel ρ' v v' := by
  intro ρ w args' h ha
  refine enter_calls ok (pointX_ok hx) hcall (ho args s) ?_ h ha
  unfold enterF
  rw [ho]
  simp only [hfn, hb, pointX_at]
  rcases he with rfl | rfl
  · exact hl
  · exact hl
end
end Go.Eng
