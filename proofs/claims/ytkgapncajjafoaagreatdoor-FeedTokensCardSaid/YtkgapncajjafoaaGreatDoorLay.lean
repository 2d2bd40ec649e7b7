/- The variable utf.none, as the evaluator knows it: it is read, and nothing of it turns. -/
import Derived.Test.YtkgapncajjafoaaGreatDoorOrc
import Derived.Below
set_option linter.all false
set_option maxRecDepth 100000
namespace Go.Proofs.YtkgapncajjafoaaGreatDoor
open Go Go.Eng
def utfNone : AObj := .cells [.int .i64 (.ofNat 0), .int .i64 (.ofNat 0)] 380 2 true true
def ren0 (q : Nat × Nat) : Ren := fun b hi => if b = 0 ∧ hi = 2 then some ⟨1, 2, 2, some q⟩ else none
theorem esz380 : (EB.size 380).getD 0 = 2 := by kernel_rfl
/-- The variable utf.none holds what the program lays there. -/
def Laid (w : World) : Prop := ∃ fz, w.heap[1]? = some (.cells #[.int .i64 0, .int .i64 0] 380 fz)
def s0 : St := ⟨HQ.none.set 0 utfNone, 1⟩
theorem rel0 {w : World} {q : Nat × Nat} (h : w.heap[1]? = some (.cells #[.int .i64 0, .int .i64 0] 380 q)) : Rel EB (ren0 q) s0 w where
  glob := fun g v hv => by
    have h : globS g = some v := hv
    unfold globS at h
    cases hb : Nat.beq g 1 with
    | false => rw [hb] at h; cases h
    | true =>
      rw [hb] at h
      obtain rfl := Nat.eq_of_beq_eq_true hb
      cases h
      exact VRel.ptr (b := 0) (o := 0) (hi := 2) (L := ⟨1, 2, 2, some q⟩) rfl
  fresh := fun b hi hb => by
    have hb : 1 ≤ b := hb
    unfold ren0
    rw [if_neg (by omega)]
  own := fun b hi L b' hi' L' e e' _ => by
    have key : ∀ b hi L, ren0 q b hi = some L → b = 0 := fun b hi L e => by
      unfold ren0 at e
      split at e
      · rename_i h; exact h.1
      · cases e
    rw [key _ _ _ e, key _ _ _ e']
  obj := fun b hi L e => by
    unfold ren0 at e
    split at e
    · rename_i hb
      obtain ⟨rfl, rfl⟩ := hb
      cases e
      refine ⟨utfNone, _, rfl, h, ?_⟩
      simp only [utfNone, ORel]
      refine ⟨by first | trivial | rfl, by decide, by decide, by first | trivial | rfl, esz380.symm, by decide, fun _ => ?_, fun hh => by (cases hh), fun _ => rfl⟩
      exact .cons (.int _ _) (.cons (.int _ _) .nil)
    · cases e
  ro := fun b hi L q' e hq => by
    unfold ren0 at e
    split at e
    · rename_i hb
      obtain ⟨rfl, rfl⟩ := hb
      cases e
      cases hq
      exact ⟨⟨_, _, _, _, rfl⟩, _, _, h⟩
    · cases e
/-- Behind a call: new blocks, nothing else. -/
theorem below0 {E : Env} {w w' : World} {q : Nat × Nat} {ρ' : Ren} {s s' : St} (h : w.heap[1]? = some (.cells #[.int .i64 0, .int .i64 0] 380 q)) (hr : Rel E ρ' s' w') (hev : Ev (ren0 q) s w ρ' s' w') (hg : s'.h.get 0 = some utfNone) : RowKit.Below w.heap.size w w' := by
  refine ⟨hev.os, hev.tape, hev.output, hev.size, fun c hc => ?_⟩
  by_cases hc1 : c = 1
  · subst hc1
    have hρ : ρ' 0 2 = some ⟨1, 2, 2, some q⟩ := hev.le _ _ _ rfl
    obtain ⟨o, o', k1, k2, k3⟩ := hr.obj _ _ _ hρ
    obtain ⟨-, ca2, e2, k4⟩ := hr.ro _ _ _ q hρ rfl
    rw [hg] at k1
    cases k1
    rw [k4] at k2
    cases k2
    simp only [utfNone, ORel] at k3
    obtain ⟨e1, -, -, e2, -, -, e3, -, -⟩ := k3
    have e3 := e3 (by decide)
    obtain ⟨l⟩ := ca2
    have hl : l.length = 2 := e2
    match l, hl, e3 with
    | [a, b], _, e3 =>
      cases e3 with
      | cons ha hs =>
        cases hs with
        | cons hb' _ =>
          cases ha; cases hb'
          subst e1
          rw [h]; exact k4
  · refine hev.keep c hc fun b hi L e => ?_
    unfold ren0 at e
    split at e
    · cases e; exact fun hh => hc1 hh.symm
    · cases e
theorem Laid.below {w w' : World} (h : Laid w) (hb : RowKit.Below w.heap.size w w') : Laid w' := by
  obtain ⟨q, h⟩ := h
  have hlt : 1 < w.heap.size := (Array.getElem?_eq_some_iff.1 h).1
  exact ⟨q, by rw [hb.block 1 hlt]; exact h⟩
end Go.Proofs.YtkgapncajjafoaaGreatDoor
