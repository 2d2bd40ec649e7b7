/- The abstract evaluator of the model, part g: definitions and laws, of no program. -/
import Derived.Test.YtkgapncajjafoaaGreatDoorEf
set_option linter.all false
/- The evaluator for the kernel: frames and tries by recursors. Printed by a program (genF1.py). -/
namespace Go.Eng
/-- A place among sixteen: how it is read, and how it is written (the rest of the work behind). -/
inductive Sel (α β : Type) where
  | mk (get : N16 α → α) (set : α → N16 α → (N16 α → β) → β)
namespace Sel
variable {α β : Type}
noncomputable def k0 (α β : Type) (x : α) (t : N16 α) (k : N16 α → β) : β := @N16.rec α (fun _ => β) (fun a0 a1 a2 a3 a4 a5 a6 a7 a8 a9 aa ab ac ad ae af => k (@N16.mk α x a1 a2 a3 a4 a5 a6 a7 a8 a9 aa ab ac ad ae af)) t
noncomputable def k1 (α β : Type) (x : α) (t : N16 α) (k : N16 α → β) : β := @N16.rec α (fun _ => β) (fun a0 a1 a2 a3 a4 a5 a6 a7 a8 a9 aa ab ac ad ae af => k (@N16.mk α a0 x a2 a3 a4 a5 a6 a7 a8 a9 aa ab ac ad ae af)) t
noncomputable def k2 (α β : Type) (x : α) (t : N16 α) (k : N16 α → β) : β := @N16.rec α (fun _ => β) (fun a0 a1 a2 a3 a4 a5 a6 a7 a8 a9 aa ab ac ad ae af => k (@N16.mk α a0 a1 x a3 a4 a5 a6 a7 a8 a9 aa ab ac ad ae af)) t
noncomputable def k3 (α β : Type) (x : α) (t : N16 α) (k : N16 α → β) : β := @N16.rec α (fun _ => β) (fun a0 a1 a2 a3 a4 a5 a6 a7 a8 a9 aa ab ac ad ae af => k (@N16.mk α a0 a1 a2 x a4 a5 a6 a7 a8 a9 aa ab ac ad ae af)) t
noncomputable def k4 (α β : Type) (x : α) (t : N16 α) (k : N16 α → β) : β := @N16.rec α (fun _ => β) (fun a0 a1 a2 a3 a4 a5 a6 a7 a8 a9 aa ab ac ad ae af => k (@N16.mk α a0 a1 a2 a3 x a5 a6 a7 a8 a9 aa ab ac ad ae af)) t
noncomputable def k5 (α β : Type) (x : α) (t : N16 α) (k : N16 α → β) : β := @N16.rec α (fun _ => β) (fun a0 a1 a2 a3 a4 a5 a6 a7 a8 a9 aa ab ac ad ae af => k (@N16.mk α a0 a1 a2 a3 a4 x a6 a7 a8 a9 aa ab ac ad ae af)) t
noncomputable def k6 (α β : Type) (x : α) (t : N16 α) (k : N16 α → β) : β := @N16.rec α (fun _ => β) (fun a0 a1 a2 a3 a4 a5 a6 a7 a8 a9 aa ab ac ad ae af => k (@N16.mk α a0 a1 a2 a3 a4 a5 x a7 a8 a9 aa ab ac ad ae af)) t
noncomputable def k7 (α β : Type) (x : α) (t : N16 α) (k : N16 α → β) : β := @N16.rec α (fun _ => β) (fun a0 a1 a2 a3 a4 a5 a6 a7 a8 a9 aa ab ac ad ae af => k (@N16.mk α a0 a1 a2 a3 a4 a5 a6 x a8 a9 aa ab ac ad ae af)) t
noncomputable def k8 (α β : Type) (x : α) (t : N16 α) (k : N16 α → β) : β := @N16.rec α (fun _ => β) (fun a0 a1 a2 a3 a4 a5 a6 a7 a8 a9 aa ab ac ad ae af => k (@N16.mk α a0 a1 a2 a3 a4 a5 a6 a7 x a9 aa ab ac ad ae af)) t
noncomputable def k9 (α β : Type) (x : α) (t : N16 α) (k : N16 α → β) : β := @N16.rec α (fun _ => β) (fun a0 a1 a2 a3 a4 a5 a6 a7 a8 a9 aa ab ac ad ae af => k (@N16.mk α a0 a1 a2 a3 a4 a5 a6 a7 a8 x aa ab ac ad ae af)) t
noncomputable def ka (α β : Type) (x : α) (t : N16 α) (k : N16 α → β) : β := @N16.rec α (fun _ => β) (fun a0 a1 a2 a3 a4 a5 a6 a7 a8 a9 aa ab ac ad ae af => k (@N16.mk α a0 a1 a2 a3 a4 a5 a6 a7 a8 a9 x ab ac ad ae af)) t
noncomputable def kb (α β : Type) (x : α) (t : N16 α) (k : N16 α → β) : β := @N16.rec α (fun _ => β) (fun a0 a1 a2 a3 a4 a5 a6 a7 a8 a9 aa ab ac ad ae af => k (@N16.mk α a0 a1 a2 a3 a4 a5 a6 a7 a8 a9 aa x ac ad ae af)) t
noncomputable def kc (α β : Type) (x : α) (t : N16 α) (k : N16 α → β) : β := @N16.rec α (fun _ => β) (fun a0 a1 a2 a3 a4 a5 a6 a7 a8 a9 aa ab ac ad ae af => k (@N16.mk α a0 a1 a2 a3 a4 a5 a6 a7 a8 a9 aa ab x ad ae af)) t
noncomputable def kd (α β : Type) (x : α) (t : N16 α) (k : N16 α → β) : β := @N16.rec α (fun _ => β) (fun a0 a1 a2 a3 a4 a5 a6 a7 a8 a9 aa ab ac ad ae af => k (@N16.mk α a0 a1 a2 a3 a4 a5 a6 a7 a8 a9 aa ab ac x ae af)) t
noncomputable def ke (α β : Type) (x : α) (t : N16 α) (k : N16 α → β) : β := @N16.rec α (fun _ => β) (fun a0 a1 a2 a3 a4 a5 a6 a7 a8 a9 aa ab ac ad ae af => k (@N16.mk α a0 a1 a2 a3 a4 a5 a6 a7 a8 a9 aa ab ac ad x af)) t
noncomputable def kf (α β : Type) (x : α) (t : N16 α) (k : N16 α → β) : β := @N16.rec α (fun _ => β) (fun a0 a1 a2 a3 a4 a5 a6 a7 a8 a9 aa ab ac ad ae af => k (@N16.mk α a0 a1 a2 a3 a4 a5 a6 a7 a8 a9 aa ab ac ad ae x)) t
noncomputable def of (α β : Type) (i : Nat) : Sel α β := cond (Nat.ble 8 i) (cond (Nat.ble 12 i) (cond (Nat.ble 14 i) (cond (Nat.ble 15 i) (.mk (fun t => t.af) (fun x t k => @N16.rec α (fun _ => β) (fun a0 a1 a2 a3 a4 a5 a6 a7 a8 a9 aa ab ac ad ae af => k (@N16.mk α a0 a1 a2 a3 a4 a5 a6 a7 a8 a9 aa ab ac ad ae x)) t)) (.mk (fun t => t.ae) (fun x t k => @N16.rec α (fun _ => β) (fun a0 a1 a2 a3 a4 a5 a6 a7 a8 a9 aa ab ac ad ae af => k (@N16.mk α a0 a1 a2 a3 a4 a5 a6 a7 a8 a9 aa ab ac ad x af)) t))) (cond (Nat.ble 13 i) (.mk (fun t => t.ad) (fun x t k => @N16.rec α (fun _ => β) (fun a0 a1 a2 a3 a4 a5 a6 a7 a8 a9 aa ab ac ad ae af => k (@N16.mk α a0 a1 a2 a3 a4 a5 a6 a7 a8 a9 aa ab ac x ae af)) t)) (.mk (fun t => t.ac) (fun x t k => @N16.rec α (fun _ => β) (fun a0 a1 a2 a3 a4 a5 a6 a7 a8 a9 aa ab ac ad ae af => k (@N16.mk α a0 a1 a2 a3 a4 a5 a6 a7 a8 a9 aa ab x ad ae af)) t)))) (cond (Nat.ble 10 i) (cond (Nat.ble 11 i) (.mk (fun t => t.ab) (fun x t k => @N16.rec α (fun _ => β) (fun a0 a1 a2 a3 a4 a5 a6 a7 a8 a9 aa ab ac ad ae af => k (@N16.mk α a0 a1 a2 a3 a4 a5 a6 a7 a8 a9 aa x ac ad ae af)) t)) (.mk (fun t => t.aa) (fun x t k => @N16.rec α (fun _ => β) (fun a0 a1 a2 a3 a4 a5 a6 a7 a8 a9 aa ab ac ad ae af => k (@N16.mk α a0 a1 a2 a3 a4 a5 a6 a7 a8 a9 x ab ac ad ae af)) t))) (cond (Nat.ble 9 i) (.mk (fun t => t.a9) (fun x t k => @N16.rec α (fun _ => β) (fun a0 a1 a2 a3 a4 a5 a6 a7 a8 a9 aa ab ac ad ae af => k (@N16.mk α a0 a1 a2 a3 a4 a5 a6 a7 a8 x aa ab ac ad ae af)) t)) (.mk (fun t => t.a8) (fun x t k => @N16.rec α (fun _ => β) (fun a0 a1 a2 a3 a4 a5 a6 a7 a8 a9 aa ab ac ad ae af => k (@N16.mk α a0 a1 a2 a3 a4 a5 a6 a7 x a9 aa ab ac ad ae af)) t))))) (cond (Nat.ble 4 i) (cond (Nat.ble 6 i) (cond (Nat.ble 7 i) (.mk (fun t => t.a7) (fun x t k => @N16.rec α (fun _ => β) (fun a0 a1 a2 a3 a4 a5 a6 a7 a8 a9 aa ab ac ad ae af => k (@N16.mk α a0 a1 a2 a3 a4 a5 a6 x a8 a9 aa ab ac ad ae af)) t)) (.mk (fun t => t.a6) (fun x t k => @N16.rec α (fun _ => β) (fun a0 a1 a2 a3 a4 a5 a6 a7 a8 a9 aa ab ac ad ae af => k (@N16.mk α a0 a1 a2 a3 a4 a5 x a7 a8 a9 aa ab ac ad ae af)) t))) (cond (Nat.ble 5 i) (.mk (fun t => t.a5) (fun x t k => @N16.rec α (fun _ => β) (fun a0 a1 a2 a3 a4 a5 a6 a7 a8 a9 aa ab ac ad ae af => k (@N16.mk α a0 a1 a2 a3 a4 x a6 a7 a8 a9 aa ab ac ad ae af)) t)) (.mk (fun t => t.a4) (fun x t k => @N16.rec α (fun _ => β) (fun a0 a1 a2 a3 a4 a5 a6 a7 a8 a9 aa ab ac ad ae af => k (@N16.mk α a0 a1 a2 a3 x a5 a6 a7 a8 a9 aa ab ac ad ae af)) t)))) (cond (Nat.ble 2 i) (cond (Nat.ble 3 i) (.mk (fun t => t.a3) (fun x t k => @N16.rec α (fun _ => β) (fun a0 a1 a2 a3 a4 a5 a6 a7 a8 a9 aa ab ac ad ae af => k (@N16.mk α a0 a1 a2 x a4 a5 a6 a7 a8 a9 aa ab ac ad ae af)) t)) (.mk (fun t => t.a2) (fun x t k => @N16.rec α (fun _ => β) (fun a0 a1 a2 a3 a4 a5 a6 a7 a8 a9 aa ab ac ad ae af => k (@N16.mk α a0 a1 x a3 a4 a5 a6 a7 a8 a9 aa ab ac ad ae af)) t))) (cond (Nat.ble 1 i) (.mk (fun t => t.a1) (fun x t k => @N16.rec α (fun _ => β) (fun a0 a1 a2 a3 a4 a5 a6 a7 a8 a9 aa ab ac ad ae af => k (@N16.mk α a0 x a2 a3 a4 a5 a6 a7 a8 a9 aa ab ac ad ae af)) t)) (.mk (fun t => t.a0) (fun x t k => @N16.rec α (fun _ => β) (fun a0 a1 a2 a3 a4 a5 a6 a7 a8 a9 aa ab ac ad ae af => k (@N16.mk α x a1 a2 a3 a4 a5 a6 a7 a8 a9 aa ab ac ad ae af)) t)))))
theorem of_ok (i : Nat) : ∃ g s, of α β i = .mk g s ∧ (∀ t, g t = t.get i) ∧ ∀ x t k, s x t k = k (N16.set x t i) := by
  unfold of N16.get N16.set
  cases Nat.ble 8 i
  · cases Nat.ble 4 i
    · cases Nat.ble 2 i
      · cases Nat.ble 1 i <;> exact ⟨_, _, rfl, fun t => rfl, fun x t k => by cases t; rfl⟩
      · cases Nat.ble 3 i <;> exact ⟨_, _, rfl, fun t => rfl, fun x t k => by cases t; rfl⟩
    · cases Nat.ble 6 i
      · cases Nat.ble 5 i <;> exact ⟨_, _, rfl, fun t => rfl, fun x t k => by cases t; rfl⟩
      · cases Nat.ble 7 i <;> exact ⟨_, _, rfl, fun t => rfl, fun x t k => by cases t; rfl⟩
  · cases Nat.ble 12 i
    · cases Nat.ble 10 i
      · cases Nat.ble 9 i <;> exact ⟨_, _, rfl, fun t => rfl, fun x t k => by cases t; rfl⟩
      · cases Nat.ble 11 i <;> exact ⟨_, _, rfl, fun t => rfl, fun x t k => by cases t; rfl⟩
    · cases Nat.ble 14 i
      · cases Nat.ble 13 i <;> exact ⟨_, _, rfl, fun t => rfl, fun x t k => by cases t; rfl⟩
      · cases Nat.ble 15 i <;> exact ⟨_, _, rfl, fun t => rfl, fun x t k => by cases t; rfl⟩
end Sel

abbrev K := F → List Deferred → St → Out

/-- How a temporary is read. -/
inductive Get where
  | mk (f : F → Value)
noncomputable def Get.get (g : Get) (t : F) : Value := @Get.rec (fun _ => Value) (fun f => f t) g
noncomputable def getC (i : Nat) : Get :=
  bif Nat.blt i 256 then
    @Sel.casesOn (N16 Value) Unit (fun _ => Get) (Sel.of (N16 Value) Unit (i / 16)) fun g1 _ =>
      @Sel.casesOn Value Unit (fun _ => Get) (Sel.of Value Unit (i % 16)) fun g2 _ => .mk fun t => g2 (g1 t.lo)
  else .mk fun t => (t.hi.get i).getD undef
theorem getC_ok (i : Nat) (t : F) : (getC i).get t = t.get i := by
  unfold getC F.get
  cases Nat.blt i 256 with
  | false => rfl
  | true =>
    obtain ⟨g1, s1, h1, h2, -⟩ := Sel.of_ok (α := N16 Value) (β := Unit) (i / 16)
    obtain ⟨g2, s2, h3, h4, -⟩ := Sel.of_ok (α := Value) (β := Unit) (i % 16)
    simp only [cond, h1, h3, Get.get, h2, h4]

/-- How a temporary is written: the value, the frame, the rest of the work. -/
inductive Put where
  | mk (f : Value → F → (F → Out) → Out)
noncomputable def Put.put (p : Put) (v : Value) (t : F) (k : F → Out) : Out := @Put.rec (fun _ => Out) (fun f => f v t k) p
noncomputable def putC (N : Nat) : Option Tmp → Put
  | none => .mk fun _ t k => k t
  | some i => bif Nat.blt i N then
      bif Nat.blt i 256 then
        @Sel.casesOn (N16 Value) Out (fun _ => Put) (Sel.of (N16 Value) Out (i / 16)) fun g1 s1 =>
          @Sel.casesOn Value Out (fun _ => Put) (Sel.of Value Out (i % 16)) fun _ s2 => .mk fun v t k =>
            @F.rec (fun _ => Out) (fun lo hi => s2 v (g1 lo) fun row => s1 row lo fun lo => k ⟨lo, hi⟩) t
      else .mk fun v t k => k { t with hi := t.hi.set i v }
    else .mk fun _ t k => k t
theorem putC_ok (N : Nat) (dst : Option Tmp) (v : Value) (t : F) (d : List Deferred) (k : F → Out) : (putC N dst).put v t k = k ((⟨t, N, d⟩ : Fr).put dst v).t := by
  cases dst with
  | none => rfl
  | some i =>
    unfold putC Fr.put
    simp only
    cases hN : Nat.blt i N with
    | false => rfl
    | true =>
      simp only [cond]
      cases hb : Nat.blt i 256 with
      | false => simp only [F.set, hb, cond]; rfl
      | true =>
        obtain ⟨g1, s1, h1, h2, h3⟩ := Sel.of_ok (α := N16 Value) (β := Out) (i / 16)
        obtain ⟨g2, s2, h4, h5, h6⟩ := Sel.of_ok (α := Value) (β := Out) (i % 16)
        simp only [F.set, hb, cond, h1, h4, Put.put, h3, h6, h2]
end Go.Eng

/- The evaluator for the kernel: operands, and operations that look only. -/
namespace Go.Eng

/-- A value's shape, taken apart. -/
noncomputable def ptrK (x : Value) (k : Addr → Out) : Out :=
  @Value.casesOn (fun _ => Out) x (fun _ => none) (fun _ _ => none) (fun _ _ => none) (fun _ _ _ => none) (fun _ => none) (fun a => @Option.rec Addr (fun _ => Out) none k a) (fun _ _ _ => none) (fun _ => none) (fun _ => none) (fun _ _ _ => none) none (fun _ _ => none) none (fun _ => none) (fun _ => none)
theorem ptrK_some {x : Value} {k : Addr → Out} {r : AExit × Fr × St} (h : ptrK x k = some r) : ∃ a, x = .pointer (some a) ∧ k a = some r := by
  cases x <;> try (simp [ptrK] at h; done)
  rename_i a
  cases a with
  | none => exact absurd h (by simp [ptrK])
  | some a => exact ⟨a, rfl, h⟩
noncomputable def boolK (x : Value) (kf kt : Out) : Out :=
  @Value.rec (fun _ => Out) (fun _ => PUnit) (fun _ => PUnit) (fun b => @Bool.rec (fun _ => Out) kf kt b) (fun _ _ => none) (fun _ _ => none) (fun _ _ _ => none) (fun _ => none) (fun _ => none) (fun _ _ _ => none) (fun _ => none) (fun _ => none) (fun _ _ _ _ _ => none) none (fun _ _ _ => none) none (fun _ _ => none) (fun _ _ => none) (fun _ _ => PUnit.unit) PUnit.unit (fun _ _ _ _ => PUnit.unit) x
theorem boolK_some {x : Value} {kf kt : Out} {r : AExit × Fr × St} (h : boolK x kf kt = some r) : ∃ b, x = .bool b ∧ (if b then kt else kf) = some r := by
  cases x <;> try (simp [boolK] at h; done)
  rename_i b
  cases b with
  | false => exact ⟨_, rfl, h⟩
  | true => exact ⟨_, rfl, h⟩
noncomputable def optK {α : Type} (x : Option α) (k : α → Out) : Out := @Option.rec α (fun _ => Out) none k x
theorem optK_some {α : Type} {x : Option α} {k : α → Out} {r : AExit × Fr × St} (h : optK x k = some r) : ∃ a, x = some a ∧ k a = some r := by
  cases x with
  | none => exact absurd h (by simp [optK])
  | some a => exact ⟨a, rfl, h⟩

section
variable (E : Env)
/-- An operand, compiled. -/
inductive OC where
  | val (f : F → Value)
  | bad
noncomputable def opd : Operand → OC
  | .tmp i => match getC i with | .mk g => .val g
  | .const v => if flat v then .val fun _ => v else .bad
  | .global g => match E.glob g with | some v => .val fun _ => v | none => .bad
  | .func f => .val fun _ => .func (.func f) #[] #[]
end
end Go.Eng

/- The evaluator for the kernel: operations that give a value and leave the state. -/
namespace Go.Eng
section
variable (E : Env)
theorem opd_ok {E : Env} {x : Operand} {g : F → Value} (h : opd E x = .val g) (t : F) (N : Nat) (d : List Deferred) : eval E ⟨t, N, d⟩ x = some (g t) := by
  cases x with
  | tmp i =>
    simp only [opd] at h
    have := getC_ok i t
    cases hg : getC i with
    | mk g' =>
      rw [hg] at h this
      cases h
      simp only [eval, Fr.tmp]
      rw [← this]; rfl
  | const v =>
    simp only [opd] at h
    split at h
    · rename_i hf
      cases h
      simp [eval, hf]
    · cases h
  | global g' =>
    simp only [opd] at h
    split at h
    · rename_i v hv
      cases h
      simp only [eval, hv]
    · cases h
  | func f => cases h; rfl

/-- Several operands. -/
inductive OCs where
  | val (f : F → List Value)
  | bad
noncomputable def opds : List Operand → OCs
  | [] => .val fun _ => []
  | x :: xs => match opd E x, opds xs with
    | .val g, .val gs => .val fun t => g t :: gs t
    | _, _ => .bad
theorem opds_ok {E : Env} : ∀ {xs : List Operand} {g : F → List Value}, opds E xs = .val g → ∀ (t : F) (N : Nat) (d : List Deferred), evals E ⟨t, N, d⟩ xs = some (g t)
  | [], g, h, t, N, d => by cases h; rfl
  | x :: xs, g, h, t, N, d => by
    simp only [opds] at h
    split at h
    · rename_i g1 gs h1 h2
      cases h
      simp only [evals, opd_ok h1, opds_ok h2]
    · cases h
inductive OPs where
  | val (f : F → List (Nat × Value))
  | bad
noncomputable def oparts : List (Nat × Operand) → OPs
  | [] => .val fun _ => []
  | (i, x) :: xs => match opd E x, oparts xs with
    | .val g, .val gs => .val fun t => (i, g t) :: gs t
    | _, _ => .bad
theorem oparts_ok {E : Env} : ∀ {xs : List (Nat × Operand)} {g : F → List (Nat × Value)}, oparts E xs = .val g → ∀ (t : F) (N : Nat) (d : List Deferred), evalParts E ⟨t, N, d⟩ xs = some (g t)
  | [], g, h, t, N, d => by cases h; rfl
  | (i, x) :: xs, g, h, t, N, d => by
    simp only [oparts] at h
    split at h
    · rename_i g1 gs h1 h2
      cases h
      simp only [evalParts, opd_ok h1, oparts_ok h2]
    · cases h
inductive OOpt where
  | val (f : F → Option Value)
  | bad
noncomputable def oopt : Option Operand → OOpt
  | none => .val fun _ => none
  | some x => match opd E x with
    | .val g => .val fun t => some (g t)
    | _ => .bad
theorem oopt_ok {E : Env} {x : Option Operand} {g : F → Option Value} (h : oopt E x = .val g) (t : F) (N : Nat) (d : List Deferred) : evalOpt E ⟨t, N, d⟩ x = some (g t) := by
  cases x with
  | none => cases h; rfl
  | some x =>
    simp only [oopt] at h
    split at h
    · rename_i g1 h1
      cases h
      simp only [evalOpt, opd_ok h1, Option.map_some]
    · cases h

/-- An operation that gives a value. -/
inductive VC where
  | mk (f : F → St → (Value → Out) → Out)
  | bad
noncomputable def VC.run (c : VC) (t : F) (s : St) (k : Value → Out) : Out := @VC.rec (fun _ => Out) (fun f => f t s k) none c
def VSpec (N : Nat) (c : VC) (o : Oper) : Prop := ∀ t d s k r, c.run t s k = some r → ∃ v, evalOp E ⟨t, N, d⟩ o s = some (.val v s) ∧ k v = some r

noncomputable def valC (o : Oper) : VC :=
  match o.op with
  | .move x | .assign x => match opd E x with | .val g => .mk fun t _ k => k (g t) | _ => .bad
  | .pick c a b => match opd E c, opd E a, opd E b with
    | .val gc, .val ga, .val gb => .mk fun t _ k => boolK (gc t) (k (gb t)) (k (ga t))
    | _, _, _ => .bad
  | .load ty a => match opd E a with | .val g => .mk fun t s k => ptrK (g t) fun a => optK (loadV E s ty a) k | _ => .bad
  | .binOp op ty x y _ => match opd E x, opd E y with
    | .val gx, .val gy => .mk fun t _ k => optK (binV E (isConst x || isConst y) op ty (gx t) (gy t)) k
    | _, _ => .bad
  | .unOp op _ x => match opd E x with | .val g => .mk fun t _ k => optK (unV op (g t)) k | _ => .bad
  | .fieldAddr ty x f => match opd E x with | .val g => .mk fun t _ k => optK (fieldAddrV E ty (g t) f) k | _ => .bad
  | .field ty x f => match opd E x with | .val g => .mk fun t _ k => optK (fieldV E ty (g t) f) k | _ => .bad
  | .indexAddr ty x i => match opd E x, opd E i with | .val g, .val gi => .mk fun t _ k => optK (indexAddrV E ty (g t) (gi t)) k | _, _ => .bad
  | .index ty x i => match opd E x, opd E i with | .val g, .val gi => .mk fun t _ k => optK (indexV E ty (g t) (gi t)) k | _, _ => .bad
  | .lookup ty x i ok => match opd E x, opd E i with | .val g, .val gi => .mk fun t s k => optK (lookupV E s ty (g t) (gi t) ok) k | _, _ => .bad
  | .slice ty x lo hi mx => match opd E x, oopt E lo, oopt E hi, oopt E mx with
    | .val g, .val gl, .val gh, .val gm => .mk fun t s k => optK (sliceV E s ty (g t) (gl t) (gh t) (gm t)) k
    | _, _, _, _ => .bad
  | .build ty parts => match oparts E parts.toList with | .val g => .mk fun t _ k => optK (buildV E ty (g t)) k | _ => .bad
  | .typeAssert x _ asserted ok => match opd E x with | .val g => .mk fun t _ k => optK (assertV E (g t) asserted ok) k | _ => .bad
  | .makeInterface ty x => match E.under ty, opd E x with
    | some (.interface _), _ | none, _ => .bad
    | some _, .val g => .mk fun t _ k => k (.iface ty (g t))
    | _, _ => .bad
  | .makeFunc fn first captured => if isYield fn then .bad else match opds E first.toList, opds E captured.toList with
    | .val gf, .val gc => .mk fun t _ k => k (.func fn ⟨gf t⟩ ⟨gc t⟩)
    | _, _ => .bad
  | _ => .bad
end
section
variable {E : Env}
theorem bad_run {t : F} {s : St} {k : Value → Out} {r : AExit × Fr × St} (h : VC.bad.run t s k = some r) : False := by cases h

set_option maxHeartbeats 1000000 in
theorem valC_ok (N : Nat) (o : Oper) : VSpec E N (valC E o) o := by
  intro t d s k r h
  obtain ⟨dst, op, ty, pos, aft, guard⟩ := o
  cases op <;> simp only [valC] at h <;> try exact (bad_run h).elim
  case move x =>
    split at h
    · rename_i g hg
      exact ⟨_, by simp only [evalOp, opd_ok hg], h⟩
    · exact (bad_run h).elim
  case assign x =>
    split at h
    · rename_i g hg
      exact ⟨_, by simp only [evalOp, opd_ok hg], h⟩
    · exact (bad_run h).elim
  case pick c a b =>
    split at h
    · rename_i gc ga gb h1 h2 h3
      obtain ⟨b, hb, h⟩ := boolK_some h
      cases b with
      | false => exact ⟨gb t, by simp only [evalOp, opd_ok h1, opd_ok h2, opd_ok h3, hb], h⟩
      | true => exact ⟨ga t, by simp only [evalOp, opd_ok h1, opd_ok h2, opd_ok h3, hb], h⟩
    · exact (bad_run h).elim
  case load ty a =>
    split at h
    · rename_i g hg
      obtain ⟨a, ha, h⟩ := ptrK_some h
      obtain ⟨v, hv, h⟩ := optK_some h
      exact ⟨v, by simp only [evalOp, opd_ok hg, ha, hv], h⟩
    · exact (bad_run h).elim
  case makeInterface ty x =>
    split at h
    · exact (bad_run h).elim
    · exact (bad_run h).elim
    · rename_i u g hu hn hg
      refine ⟨_, ?_, h⟩
      simp only [evalOp, opd_ok hg]
      split
      · rename_i hh; rw [hn] at hh; cases hh; exact (hu _ rfl).elim
      · rename_i hh; rw [hn] at hh; cases hh
      · rfl
    · exact (bad_run h).elim
  case makeFunc fn first captured =>
    split at h
    · exact (bad_run h).elim
    · rename_i hy
      split at h
      · rename_i gf gc h1 h2
        exact ⟨_, by simp only [evalOp, hy, opds_ok h1, opds_ok h2]; rfl, h⟩
      · exact (bad_run h).elim
  case build ty parts =>
    split at h
    · rename_i g hg
      obtain ⟨v, hv, h⟩ := optK_some h
      exact ⟨v, by simp only [evalOp, oparts_ok hg, hv], h⟩
    · exact (bad_run h).elim
  case slice ty x lo hi mx =>
    split at h
    · rename_i g gl gh gm h1 h2 h3 h4
      obtain ⟨v, hv, h⟩ := optK_some h
      exact ⟨v, by simp only [evalOp, opd_ok h1, oopt_ok h2, oopt_ok h3, oopt_ok h4, hv], h⟩
    · exact (bad_run h).elim
  all_goals
    split at h
    · first
      | (rename_i g1 g2 h1 h2
         have e1 := opd_ok h1 t N d
         have e2 := opd_ok h2 t N d
         obtain ⟨v, hv, h⟩ := optK_some h
         exact ⟨v, by simp only [evalOp, e1, e2, hv], h⟩)
      | (rename_i g1 h1
         have e1 := opd_ok h1 t N d
         obtain ⟨v, hv, h⟩ := optK_some h
         exact ⟨v, by simp only [evalOp, e1, hv], h⟩)
    · exact (bad_run h).elim
end
end Go.Eng

/- The evaluator for the kernel: operations. -/
namespace Go.Eng
abbrev Call' := ANext → St → Option (AEnd × St)
inductive Cl where
  | mk (f : Call' → Option Nat → K → K)
  | bad
noncomputable def Cl.run (c : Cl) (call : Call') (round : Option Nat) (k : K) (t : F) (d : List Deferred) (s : St) : Out := @Cl.rec (fun _ => Out) (fun f => f call round k t d s) none c
theorem Cl.run_mk (f : Call' → Option Nat → K → K) (call : Call') (round : Option Nat) (k : K) (t : F) (d : List Deferred) (s : St) : (Cl.mk f).run call round k t d s = f call round k t d s := rfl
theorem Cl.bad_run {call : Call'} {round : Option Nat} {k : K} {t : F} {d : List Deferred} {s : St} {r : AExit × Fr × St} (h : Cl.bad.run call round k t d s = some r) : False := by cases h

/-- One after the other. -/
noncomputable def seqC (a b : Cl) : Cl := match a, b with
  | .mk f, .mk g => .mk fun call round k => f call round (g call round k)
  | a, b => .mk fun call round k t d s => a.run call round (fun t d s => b.run call round k t d s) t d s
theorem seqC_run (a b : Cl) (call : Call') (round : Option Nat) (k : K) (t : F) (d : List Deferred) (s : St) : (seqC a b).run call round k t d s = a.run call round (fun t d s => b.run call round k t d s) t d s := by
  cases a <;> cases b <;> rfl
noncomputable def condC (g : F → Value) (a b : Cl) : Cl := match a, b with
  | .mk f, .mk h => .mk fun call round k t d s => boolK (g t) (h call round k t d s) (f call round k t d s)
  | a, b => .mk fun call round k t d s => boolK (g t) (b.run call round k t d s) (a.run call round k t d s)
theorem condC_run (g : F → Value) (a b : Cl) (call : Call') (round : Option Nat) (k : K) (t : F) (d : List Deferred) (s : St) : (condC g a b).run call round k t d s = boolK (g t) (b.run call round k t d s) (a.run call round k t d s) := by
  cases a <;> cases b <;> rfl

/-- What a compiled operation answers is what the operation answers. -/
def OSpec (E : Env) (N : Nat) (c : Cl) (o : Oper) : Prop :=
  ∀ (call : Call') (round : Option Nat) (k : K) t d s r, c.run call round k t d s = some r → ∃ a, evalOp E ⟨t, N, d⟩ o s = some a ∧
    ((∃ t1 d1 s1, onNext call round.isSome o ⟨t, N, d⟩ s a = some (.normal, ⟨t1, N, d1⟩, s1) ∧ k t1 d1 s1 = some r) ∨ (onNext call round.isSome o ⟨t, N, d⟩ s a = some r ∧ r.1 ≠ .normal))

section
variable (E : Env) (N : Nat)
/-- An operation that looks only, with its destination. -/
noncomputable def lookC (vc : VC) (p : Put) : Cl := .mk fun _ _ k t d s => vc.run t s fun v => p.put v t fun t => k t d s
theorem put_fr (dst : Option Tmp) (v : Value) (t : F) (d : List Deferred) : (⟨t, N, d⟩ : Fr).put dst v = ⟨((⟨t, N, d⟩ : Fr).put dst v).t, N, d⟩ := by
  have h1 := put_n ⟨t, N, d⟩ dst v
  have h2 := put_d ⟨t, N, d⟩ dst v
  generalize (⟨t, N, d⟩ : Fr).put dst v = q at h1 h2 ⊢
  cases q
  simp only at h1 h2
  rw [h1, h2]
theorem lookC_ok {E : Env} {N : Nat} {vc : VC} {o : Oper} (h : VSpec E N vc o) : OSpec E N (lookC vc (putC N o.dst)) o := by
  intro call round k t d s r hr
  obtain ⟨v, h1, h2⟩ := h t d s _ r hr
  rw [putC_ok N o.dst v t d] at h2
  exact ⟨_, h1, .inl ⟨_, d, s, by simp only [onNext]; rw [put_fr], h2⟩⟩
/-- An operation, by the evaluator itself. -/
noncomputable def slowC (o : Oper) : Cl := .mk fun call round k t d s => match evalOp E ⟨t, N, d⟩ o s with
  | some a => match onNext call round.isSome o ⟨t, N, d⟩ s a with
    | some (.normal, fr, s) => k fr.t fr.d s
    | r => r
  | none => none
theorem slowC_ok (o : Oper) : OSpec E N (slowC E N o) o := by
  intro call round k t d s r hr
  simp only [slowC, Cl.run] at hr
  split at hr
  · rename_i a ha
    refine ⟨a, ha, ?_⟩
    cases ho : onNext call round.isSome o ⟨t, N, d⟩ s a with
    | none => rw [ho] at hr; cases hr
    | some r1 =>
      obtain ⟨e, fr1, s1⟩ := r1
      rw [ho] at hr
      cases e with
      | normal =>
        obtain ⟨frS1, -, h1, -⟩ := onNext_shade (fr := ⟨t, N, d⟩) (frS := ⟨t, N, d⟩) rfl rfl ho
        obtain ⟨t1, n1, d1⟩ := fr1
        simp only at h1 hr
        subst h1
        exact .inl ⟨t1, d1, s1, rfl, hr⟩
      | jump c => cases hr; exact .inr ⟨rfl, by intro h; cases h⟩
      | panic c => cases hr; exact .inr ⟨rfl, by intro h; cases h⟩
  · cases hr
end
end Go.Eng

/- The evaluator for the kernel: regions in the text's order. -/
namespace Go.Eng
section
variable (E : Env) (N : Nat)
noncomputable def opC (o : Oper) : Cl :=
  @VC.casesOn (fun _ => Cl) (valC E o) (fun f => lookC (.mk f) (putC N o.dst)) (slowC E N o)
theorem opC_ok (o : Oper) : OSpec E N (opC E N o) o := by
  unfold opC
  cases h : valC E o with
  | mk f => exact lookC_ok (h ▸ valC_ok N o)
  | bad => exact slowC_ok E N o

/-- Is it the boolean? -/
noncomputable def isK (x : Value) (want : Bool) (no yes : Out) : Out := @Bool.rec (fun _ => Out) no yes (match x with | .bool b => b == want | _ => false)

/-- An operation with its guard: whether it is carried out at all. -/
noncomputable def guardC (ops : Array Oper) (o : Oper) (c : Cl) : Cl :=
  match o.guard with
  | none => c
  | some (j, want) => match (ops[j]?).bind (·.dst) with
    | some i => .mk fun call round k t d s => isK ((getC i).get t) want ((putC N o.dst).put undef t fun t => k t d s) (c.run call round k t d s)
    | none => .mk fun call round k t d s => (putC N o.dst).put undef t fun t => k t d s

/-- What an operation with its guard answers. -/
def GSpec (ops : Array Oper) (c : Cl) (o : Oper) : Prop :=
  ∀ (call : Call') (round : Option Nat) (k : K) t d s r, c.run call round k t d s = some r →
    (wantedA ops ⟨t, N, d⟩ o = true ∧ ∃ a, evalOp E ⟨t, N, d⟩ o s = some a ∧
      ((∃ t1 d1 s1, onNext call round.isSome o ⟨t, N, d⟩ s a = some (.normal, ⟨t1, N, d1⟩, s1) ∧ k t1 d1 s1 = some r) ∨ (onNext call round.isSome o ⟨t, N, d⟩ s a = some r ∧ r.1 ≠ .normal))) ∨
    (wantedA ops ⟨t, N, d⟩ o = false ∧ ∃ t1, (⟨t, N, d⟩ : Fr).put o.dst undef = ⟨t1, N, d⟩ ∧ k t1 d s = some r)
theorem guardC_ok (ops : Array Oper) (o : Oper) {c : Cl} (hc : OSpec E N c o) : GSpec E N ops (guardC N ops o c) o := by
  intro call round k t d s r h
  unfold guardC at h
  unfold wantedA
  cases hg : o.guard with
  | none =>
    rw [hg] at h
    exact .inl ⟨rfl, hc call round k t d s r h⟩
  | some g =>
    obtain ⟨j, want⟩ := g
    rw [hg] at h
    simp only at h ⊢
    unfold yieldedA
    cases hd : (ops[j]?).bind (·.dst) with
    | none =>
      rw [hd] at h
      simp only [Cl.run] at h
      rw [putC_ok N o.dst undef t d] at h
      exact .inr ⟨rfl, _, put_fr N o.dst undef t d, h⟩
    | some i =>
      rw [hd] at h
      simp only [Cl.run] at h
      rw [getC_ok] at h
      have hs : ∀ h' : (putC N o.dst).put undef t (fun t => k t d s) = some r, ∃ t1, (⟨t, N, d⟩ : Fr).put o.dst undef = ⟨t1, N, d⟩ ∧ k t1 d s = some r := by
        intro h'
        rw [putC_ok N o.dst undef t d] at h'
        exact ⟨_, put_fr N o.dst undef t d, h'⟩
      simp only [Fr.tmp]
      generalize t.get i = q at h
      cases q <;> simp only [isK] at h <;> first | exact .inr ⟨rfl, hs h⟩ | skip
      rename_i b
      cases hb : b == want with
      | true =>
        rw [hb] at h
        exact .inl ⟨by simpa using hb, hc call round k t d s r h⟩
      | false =>
        rw [hb] at h
        exact .inr ⟨by simpa using hb, hs h⟩
end
end Go.Eng

/- The evaluator for the kernel: shapes of values. Printed by a program (genF9.py). -/
namespace Go.Eng
variable {β : Type}
noncomputable def intK (x : Value) (f : IntKind → Int → Option β) : Option β := @Value.rec (fun _ => Option β) (fun _ => PUnit) (fun _ => PUnit) (fun _ => none) f (fun _ _ => none) (fun _ _ _ => none) (fun _ => none) (fun _ => none) (fun _ _ _ => none) (fun _ => none) (fun _ => none) (fun _ _ _ _ _ => none) none (fun _ _ _ => none) none (fun _ _ => none) (fun _ _ => none) (fun _ _ => PUnit.unit) PUnit.unit (fun _ _ _ _ => PUnit.unit) x
theorem intK_some {x : Value} {f} {r : β} (h : intK x f = some r) : ∃ j n, x = .int j n ∧ f j n = some r := by
  cases x <;> first | exact ⟨_, _, rfl, h⟩ | cases h
noncomputable def strK (x : Value) (f : ByteArray → Option β) : Option β := @Value.rec (fun _ => Option β) (fun _ => PUnit) (fun _ => PUnit) (fun _ => none) (fun _ _ => none) (fun _ _ => none) (fun _ _ _ => none) f (fun _ => none) (fun _ _ _ => none) (fun _ => none) (fun _ => none) (fun _ _ _ _ _ => none) none (fun _ _ _ => none) none (fun _ _ => none) (fun _ _ => none) (fun _ _ => PUnit.unit) PUnit.unit (fun _ _ _ _ => PUnit.unit) x
theorem strK_some {x : Value} {f} {r : β} (h : strK x f = some r) : ∃ b, x = .string b ∧ f b = some r := by
  cases x <;> first | exact ⟨_, rfl, h⟩ | cases h
noncomputable def sliceK (x : Value) (f : Option Addr → Nat → Nat → Option β) : Option β := @Value.rec (fun _ => Option β) (fun _ => PUnit) (fun _ => PUnit) (fun _ => none) (fun _ _ => none) (fun _ _ => none) (fun _ _ _ => none) (fun _ => none) (fun _ => none) f (fun _ => none) (fun _ => none) (fun _ _ _ _ _ => none) none (fun _ _ _ => none) none (fun _ _ => none) (fun _ _ => none) (fun _ _ => PUnit.unit) PUnit.unit (fun _ _ _ _ => PUnit.unit) x
theorem sliceK_some {x : Value} {f} {r : β} (h : sliceK x f = some r) : ∃ a n c, x = .slice a n c ∧ f a n c = some r := by
  cases x <;> first | exact ⟨_, _, _, rfl, h⟩ | cases h
noncomputable def pointerK (x : Value) (f : Option Addr → Option β) : Option β := @Value.rec (fun _ => Option β) (fun _ => PUnit) (fun _ => PUnit) (fun _ => none) (fun _ _ => none) (fun _ _ => none) (fun _ _ _ => none) (fun _ => none) f (fun _ _ _ => none) (fun _ => none) (fun _ => none) (fun _ _ _ _ _ => none) none (fun _ _ _ => none) none (fun _ _ => none) (fun _ _ => none) (fun _ _ => PUnit.unit) PUnit.unit (fun _ _ _ _ => PUnit.unit) x
theorem pointerK_some {x : Value} {f} {r : β} (h : pointerK x f = some r) : ∃ a, x = .pointer a ∧ f a = some r := by
  cases x <;> first | exact ⟨_, rfl, h⟩ | cases h
noncomputable def bitK (x : Value) (f : Bool → Option β) : Option β := @Value.rec (fun _ => Option β) (fun _ => PUnit) (fun _ => PUnit) f (fun _ _ => none) (fun _ _ => none) (fun _ _ _ => none) (fun _ => none) (fun _ => none) (fun _ _ _ => none) (fun _ => none) (fun _ => none) (fun _ _ _ _ _ => none) none (fun _ _ _ => none) none (fun _ _ => none) (fun _ _ => none) (fun _ _ => PUnit.unit) PUnit.unit (fun _ _ _ _ => PUnit.unit) x
theorem bitK_some {x : Value} {f} {r : β} (h : bitK x f = some r) : ∃ b, x = .bool b ∧ f b = some r := by
  cases x <;> first | exact ⟨_, rfl, h⟩ | cases h
noncomputable def aggK (x : Value) (f : Array Value → Option β) : Option β := @Value.rec (fun _ => Option β) (fun _ => PUnit) (fun _ => PUnit) (fun _ => none) (fun _ _ => none) (fun _ _ => none) (fun _ _ _ => none) (fun _ => none) (fun _ => none) (fun _ _ _ => none) (fun _ => none) (fun _ => none) (fun _ _ _ _ _ => none) none (fun _ _ _ => none) none (fun cs _ => f cs) (fun _ _ => none) (fun _ _ => PUnit.unit) PUnit.unit (fun _ _ _ _ => PUnit.unit) x
theorem aggK_some {x : Value} {f} {r : β} (h : aggK x f = some r) : ∃ cs, x = .agg cs ∧ f cs = some r := by
  cases x <;> first | exact ⟨_, rfl, h⟩ | cases h
noncomputable def tupleK (x : Value) (f : Array Value → Option β) : Option β := @Value.rec (fun _ => Option β) (fun _ => PUnit) (fun _ => PUnit) (fun _ => none) (fun _ _ => none) (fun _ _ => none) (fun _ _ _ => none) (fun _ => none) (fun _ => none) (fun _ _ _ => none) (fun _ => none) (fun _ => none) (fun _ _ _ _ _ => none) none (fun _ _ _ => none) none (fun _ _ => none) (fun cs _ => f cs) (fun _ _ => PUnit.unit) PUnit.unit (fun _ _ _ _ => PUnit.unit) x
theorem tupleK_some {x : Value} {f} {r : β} (h : tupleK x f = some r) : ∃ cs, x = .tuple cs ∧ f cs = some r := by
  cases x <;> first | exact ⟨_, rfl, h⟩ | cases h
noncomputable def ifaceK (x : Value) (f : TypeId → Value → Option β) : Option β := @Value.rec (fun _ => Option β) (fun _ => PUnit) (fun _ => PUnit) (fun _ => none) (fun _ _ => none) (fun _ _ => none) (fun _ _ _ => none) (fun _ => none) (fun _ => none) (fun _ _ _ => none) (fun _ => none) (fun _ => none) (fun _ _ _ _ _ => none) none (fun t v _ => f t v) none (fun _ _ => none) (fun _ _ => none) (fun _ _ => PUnit.unit) PUnit.unit (fun _ _ _ _ => PUnit.unit) x
theorem ifaceK_some {x : Value} {f} {r : β} (h : ifaceK x f = some r) : ∃ t v, x = .iface t v ∧ f t v = some r := by
  cases x <;> first | exact ⟨_, _, rfl, h⟩ | cases h
noncomputable def funcK (x : Value) (f : Fn → Array Value → Array Value → Option β) : Option β := @Value.rec (fun _ => Option β) (fun _ => PUnit) (fun _ => PUnit) (fun _ => none) (fun _ _ => none) (fun _ _ => none) (fun _ _ _ => none) (fun _ => none) (fun _ => none) (fun _ _ _ => none) (fun _ => none) (fun _ => none) (fun a b c _ _ => f a b c) none (fun _ _ _ => none) none (fun _ _ => none) (fun _ _ => none) (fun _ _ => PUnit.unit) PUnit.unit (fun _ _ _ _ => PUnit.unit) x
theorem funcK_some {x : Value} {f} {r : β} (h : funcK x f = some r) : ∃ g b c, x = .func g b c ∧ f g b c = some r := by
  cases x <;> first | exact ⟨_, _, _, rfl, h⟩ | cases h
/-- Not nil. -/
noncomputable def someK {α : Type} (x : Option α) (f : α → Option β) : Option β := @Option.rec α (fun _ => Option β) none f x
theorem someK_some {α : Type} {x : Option α} {f : α → Option β} {r} (h : someK x f = some r) : ∃ a, x = some a ∧ f a = some r := by
  cases x with
  | none => cases h
  | some a => exact ⟨a, rfl, h⟩
noncomputable def ifK (b : Bool) (yes : Option β) : Option β := @Bool.rec (fun _ => Option β) none yes b
theorem ifK_some {b : Bool} {y : Option β} {r} (h : ifK b y = some r) : b = true ∧ y = some r := by
  cases b with
  | false => cases h
  | true => exact ⟨rfl, h⟩
/-- An address, taken apart. -/
noncomputable def addrK (a : Addr) (f : Nat → Nat → Option Nat → Option β) : Option β := @Addr.rec (fun _ => Option β) f a
theorem addrK_eq (a : Addr) (f : Nat → Nat → Option Nat → Option β) : addrK a f = f a.block a.off a.spot := by cases a; rfl
/-- A number of just this kind. -/
noncomputable def kindK (j : IntKind) (k : IntKind) (yes : Option β) : Option β := match j with
  | .i8 => @IntKind.rec (fun _ => Option β) yes none none none none none none none k
  | .i16 => @IntKind.rec (fun _ => Option β) none yes none none none none none none k
  | .i32 => @IntKind.rec (fun _ => Option β) none none yes none none none none none k
  | .i64 => @IntKind.rec (fun _ => Option β) none none none yes none none none none k
  | .u8 => @IntKind.rec (fun _ => Option β) none none none none yes none none none k
  | .u16 => @IntKind.rec (fun _ => Option β) none none none none none yes none none k
  | .u32 => @IntKind.rec (fun _ => Option β) none none none none none none yes none k
  | .u64 => @IntKind.rec (fun _ => Option β) none none none none none none none yes k
theorem kindK_some {j k : IntKind} {y : Option β} {r} (h : kindK j k y = some r) : k = j ∧ y = some r := by
  cases j <;> cases k <;> first | exact ⟨rfl, h⟩ | cases h
/-- The test, made at compile time. -/
inductive KC (β : Type) where
  | mk (f : IntKind → Option β → Option β)
noncomputable def kindC (j : IntKind) : KC β := match j with
  | .i8 => .mk fun k yes => @IntKind.rec (fun _ => Option β) yes none none none none none none none k
  | .i16 => .mk fun k yes => @IntKind.rec (fun _ => Option β) none yes none none none none none none k
  | .i32 => .mk fun k yes => @IntKind.rec (fun _ => Option β) none none yes none none none none none k
  | .i64 => .mk fun k yes => @IntKind.rec (fun _ => Option β) none none none yes none none none none k
  | .u8 => .mk fun k yes => @IntKind.rec (fun _ => Option β) none none none none yes none none none k
  | .u16 => .mk fun k yes => @IntKind.rec (fun _ => Option β) none none none none none yes none none k
  | .u32 => .mk fun k yes => @IntKind.rec (fun _ => Option β) none none none none none none yes none k
  | .u64 => .mk fun k yes => @IntKind.rec (fun _ => Option β) none none none none none none none yes k
theorem kindC_some {j : IntKind} {f : IntKind → Option β → Option β} (hf : kindC j = .mk f) {k : IntKind} {y : Option β} {r} (h : f k y = some r) : k = j ∧ y = some r := by
  cases j <;> cases hf <;> cases k <;> first | exact ⟨rfl, h⟩ | cases h
theorem kindC_mk (j : IntKind) : ∃ f, (kindC j : KC β) = .mk f := by cases j <;> exact ⟨_, rfl⟩
end Go.Eng

/- The evaluator for the kernel: heap, cells and numbers, made small. -/
namespace Go.Eng
variable {β : Type}

/-! ### the heap -/
inductive HS (β : Type) where
  | mk (g : HT Raw → Option Raw) (st : Raw → HT Raw → (HT Raw → Option β) → Option β)
/-- A choice among sixteen, its number brought to its own form. -/
noncomputable def selN (α β : Type) (i : Nat) : Sel α β := @Nat.rec (fun _ => Sel α β) (Sel.of α β 0) (fun n _ => Sel.of α β (Nat.succ n)) i
theorem selN_eq (α β : Type) (i : Nat) : selN α β i = Sel.of α β i := by cases i <;> rfl
noncomputable def hselC (β : Type) (b : Nat) : HS β :=
  bif Nat.blt b 65536 then
    @Sel.casesOn (N16 (N16 (N16 (Option Raw)))) (Option β) (fun _ => HS β) (selN (N16 (N16 (N16 (Option Raw)))) (Option β) (b / 4096)) fun g1 s1 =>
    @Sel.casesOn (N16 (N16 (Option Raw))) (Option β) (fun _ => HS β) (selN (N16 (N16 (Option Raw))) (Option β) (b / 256 % 16)) fun g2 s2 =>
    @Sel.casesOn (N16 (Option Raw)) (Option β) (fun _ => HS β) (selN (N16 (Option Raw)) (Option β) (b / 16 % 16)) fun g3 s3 =>
    @Sel.casesOn (Option Raw) (Option β) (fun _ => HS β) (selN (Option Raw) (Option β) (b % 16)) fun g4 s4 =>
    .mk (fun h => g4 (g3 (g2 (g1 h.lo)))) (fun o h k => @HT.rec Raw (fun _ => Option β) (fun lo hi => s4 (some o) (g3 (g2 (g1 lo))) fun r3 => s3 r3 (g2 (g1 lo)) fun r2 => s2 r2 (g1 lo) fun r1 => s1 r1 lo fun lo => k ⟨lo, hi⟩) h)
  else .mk (fun h => h.hi.get b) (fun o h k => k { h with hi := h.hi.set b o })
theorem hselC_ok (b : Nat) : ∃ g st, hselC β b = .mk g st ∧ (∀ h, g h = h.get b) ∧ ∀ o h k, st o h k = k (h.set b o) := by
  unfold hselC
  cases hb : Nat.blt b 65536 with
  | false =>
    refine ⟨_, _, rfl, fun h => ?_, fun o h k => ?_⟩
    · simp only [HT.get, hb, cond]
    · simp only [HT.set, hb, cond]
  | true =>
    obtain ⟨g1, s1, h1, h2, h3⟩ := Sel.of_ok (α := N16 (N16 (N16 (Option Raw)))) (β := Option β) (b / 4096)
    obtain ⟨g2, s2, k1, k2, k3⟩ := Sel.of_ok (α := N16 (N16 (Option Raw))) (β := Option β) (b / 256 % 16)
    obtain ⟨g3, s3, l1, l2, l3⟩ := Sel.of_ok (α := N16 (Option Raw)) (β := Option β) (b / 16 % 16)
    obtain ⟨g4, s4, m1, m2, m3⟩ := Sel.of_ok (α := Option Raw) (β := Option β) (b % 16)
    simp only [cond, selN_eq, h1, k1, l1, m1]
    refine ⟨_, _, rfl, fun h => ?_, fun o h k => ?_⟩
    · simp only [HT.get, hb, cond, m2, l2, k2, h2]
    · cases h
      simp only [HT.set, hb, cond, m3, l3, k3, h3, l2, k2, h2]

/-- A use of a block that looks only at what it says. -/
def NormOk {γ : Type} (f : Raw → γ) : Prop := ∀ r, f r = f (.obj r.norm)
theorem NormOk.eq {γ : Type} {f : Raw → γ} (h : NormOk f) {r r' : Raw} (e : r.norm = r'.norm) : f r = f r' := by rw [h r, h r', e]
noncomputable def atT (b : Nat) (t : HT Raw) (f : Raw → Option β) : Option β := @HS.rec β (fun _ => Option β) (fun g _ => someK (g t) f) (hselC β b)
theorem atT_eq (b : Nat) (t : HT Raw) (f : Raw → Option β) : atT b t f = someK (t.get b) f := by
  obtain ⟨g, st, h1, h2, h3⟩ := hselC_ok (β := β) b
  simp only [atT, h1, h2]
theorem atT_rel (b : Nat) {f : Raw → Option β} (hf : NormOk f) (t t' : HT Raw) (h : HR t t') : atT b t f = atT b t' f := by
  rw [atT_eq, atT_eq]
  have := h b
  cases ht : t.get b <;> cases ht' : t'.get b <;> rw [ht, ht'] at this <;> simp only [Option.map_none, Option.map_some] at this
  · cases this
  · cases this
  · exact hf.eq (Option.some.inj this)
noncomputable def atK (b : Nat) (s : St) (f : Raw → Option β) (hf : NormOk f) : Option β := @Quot.lift (HT Raw) HR (Option β) (fun t => atT b t f) (atT_rel b hf) s.h
noncomputable def rawK (b : Nat) (s : St) (f : Raw → Option β) (hf : NormOk f) : Option β := @Nat.rec (fun _ => Option β) (atK 0 s f hf) (fun n _ => atK (Nat.succ n) s f hf) b
theorem rawK_some {b : Nat} {s : St} {f} {hf : NormOk f} {r : β} (h : rawK b s f hf = some r) : ∃ o, s.h.get b = some o ∧ f (.obj o) = some r := by
  have e : rawK b s f hf = atK b s f hf := by cases b <;> rfl
  rw [e] at h
  obtain ⟨q, nx⟩ := s
  induction q using Quot.ind with
  | mk t =>
    have h : atT b t f = some r := h
    rw [atT_eq] at h
    obtain ⟨raw, h4, h5⟩ := someK_some h
    refine ⟨raw.norm, ?_, by rw [← hf raw]; exact h5⟩
    show (t.get b).map Raw.norm = _
    rw [h4]; rfl
noncomputable def normF {γ : Type} (f : AObj → γ) : Raw → γ := fun r => f r.norm
theorem normF_ok {γ : Type} (f : AObj → γ) : NormOk (normF f) := fun _ => rfl
noncomputable def getK (b : Nat) (s : St) (f : AObj → Option β) : Option β := rawK b s (normF f) (normF_ok f)
theorem getK_some {b : Nat} {s : St} {f} {r : β} (h : getK b s f = some r) : ∃ o, s.h.get b = some o ∧ f o = some r := rawK_some h

noncomputable def putHT (b : Nat) (o : Raw) (nx : Nat) (k : St → Option β) (t : HT Raw) : Option β := @HS.rec β (fun _ => Option β) (fun _ st => st o t fun t => k ⟨Quot.mk HR t, nx⟩) (hselC β b)
theorem putHT_eq (b : Nat) (o : Raw) (nx : Nat) (k : St → Option β) (t : HT Raw) : putHT b o nx k t = k ⟨HQ.set (Quot.mk HR t) b o.norm, nx⟩ := by
  obtain ⟨g, st, h1, h2, h3⟩ := hselC_ok (β := β) b
  simp only [putHT, h1, h3]
  have : (Quot.mk HR (t.set b o) : HQ) = HQ.set (Quot.mk HR t) b o.norm := Quot.sound (HR.set (fun _ => rfl) b rfl)
  rw [this]
theorem putHT_rel (b : Nat) (o : Raw) (nx : Nat) (k : St → Option β) (t t' : HT Raw) (h : HR t t') : putHT b o nx k t = putHT b o nx k t' := by
  rw [putHT_eq, putHT_eq]
  have : (Quot.mk HR t : HQ) = Quot.mk HR t' := Quot.sound h
  rw [this]
noncomputable def putAt (b : Nat) (o : Raw) (s : St) (k : St → Option β) : Option β := @St.rec (fun _ => Option β) (fun h nx => @Quot.lift (HT Raw) HR (Option β) (putHT b o nx k) (putHT_rel b o nx k) h) s
noncomputable def putRK (b : Nat) (o : Raw) (s : St) (k : St → Option β) : Option β := @Nat.rec (fun _ => Option β) (putAt 0 o s k) (fun n _ => putAt (Nat.succ n) o s k) b
theorem putRK_eq (b : Nat) (o : Raw) (s : St) (k : St → Option β) : putRK b o s k = k (s.put b o.norm) := by
  have e : putRK b o s k = putAt b o s k := by cases b <;> rfl
  rw [e]
  obtain ⟨q, nx⟩ := s
  induction q using Quot.ind with
  | mk t => exact putHT_eq b o nx k t
noncomputable def putK (b : Nat) (o : AObj) (s : St) (k : St → Option β) : Option β := putRK b (.obj o) s k
theorem putK_eq (b : Nat) (o : AObj) (s : St) (k : St → Option β) : putK b o s k = k (s.put b o) := putRK_eq b _ s k
noncomputable def allocAt (b : Nat) (o : Raw) (s : St) (k : Nat → St → Option β) : Option β := @Quot.lift (HT Raw) HR (Option β) (putHT b o (Nat.add b 1) (k b)) (putHT_rel b o (Nat.add b 1) (k b)) s.h
noncomputable def allocRK (o : Raw) (s : St) (k : Nat → St → Option β) : Option β := @Nat.rec (fun _ => Option β) (allocAt 0 o s k) (fun n _ => allocAt (Nat.succ n) o s k) s.nx
theorem allocRK_eq (o : Raw) (s : St) (k : Nat → St → Option β) : allocRK o s k = k s.nx (s.alloc o.norm) := by
  have e : allocRK o s k = allocAt s.nx o s k := by unfold allocRK; cases s.nx <;> rfl
  rw [e]
  obtain ⟨q, nx⟩ := s
  induction q using Quot.ind with
  | mk t => exact putHT_eq nx o (Nat.add nx 1) (k nx) t
noncomputable def allocK (o : AObj) (s : St) (k : Nat → St → Option β) : Option β := allocRK (.obj o) s k
theorem allocK_eq (o : AObj) (s : St) (k : Nat → St → Option β) : allocK o s k = k s.nx (s.alloc o) := allocRK_eq _ s k

/-! ### cells -/
noncomputable def cellsK (o : AObj) (f : List Value → TypeId → Nat → Bool → Bool → Option β) : Option β :=
  @AObj.rec (fun _ => Option β) f (fun _ _ => none) (fun _ _ => none) (fun _ _ _ _ => none) (fun _ _ _ _ _ _ _ _ _ => none) (fun _ => none) o
theorem cellsK_some {o : AObj} {f} {r : β} (h : cellsK o f = some r) : ∃ cs e w z x, o = .cells cs e w z x ∧ f cs e w z x = some r := by
  cases o <;> first | exact ⟨_, _, _, _, _, rfl, h⟩ | cases h
noncomputable def nthK (cs : List Value) (o : Nat) (f : Value → Option β) : Option β :=
  @List.rec Value (fun _ => Nat → Option β) (fun _ => none) (fun v _ ih n => @Nat.rec (fun _ => Option β) (f v) (fun n _ => ih n) n) cs o
theorem nthK_some {f} {r : β} : ∀ {cs : List Value} {o : Nat}, nthK cs o f = some r → ∃ v, cs[o]? = some v ∧ f v = some r
  | [], o, h => by cases h
  | v :: cs, 0, h => ⟨v, rfl, h⟩
  | v :: cs, o + 1, h => by
    obtain ⟨x, h1, h2⟩ := nthK_some (cs := cs) (o := o) h
    exact ⟨x, by simpa using h1, h2⟩
noncomputable def lenB (cs : List Value) (n : Nat) : Bool :=
  @List.rec Value (fun _ => Nat → Bool) (fun n => Nat.beq n 0) (fun _ _ ih n => @Nat.rec (fun _ => Bool) false (fun n _ => ih n) n) cs n
theorem lenB_eq : ∀ {cs : List Value} {n : Nat}, lenB cs n = true → cs.length = n
  | [], n, h => (Nat.eq_of_beq_eq_true h).symm
  | v :: cs, 0, h => by cases h
  | v :: cs, n + 1, h => by simp [lenB_eq (cs := cs) (n := n) h]
noncomputable def setK (cs : List Value) (o : Nat) (v : Value) (k : List Value → Option β) : Option β :=
  @List.rec Value (fun _ => Nat → (List Value → Option β) → Option β) (fun _ _ => none) (fun a l ih n k => @Nat.rec (fun _ => Option β) (k (v :: l)) (fun n _ => ih n fun l => k (a :: l)) n) cs o k
theorem setK_some {v : Value} {r : β} : ∀ {cs : List Value} {o : Nat} {k}, setK cs o v k = some r → o < cs.length ∧ k (cs.take o ++ [v] ++ cs.drop (o + 1)) = some r
  | [], o, k, h => by cases h
  | a :: cs, 0, k, h => ⟨by simp, h⟩
  | a :: cs, o + 1, k, h => by
    obtain ⟨h1, h2⟩ := setK_some (cs := cs) (o := o) (k := fun l => k (a :: l)) h
    exact ⟨by simp; omega, by simpa using h2⟩
noncomputable def dropK (cs : List Value) (o : Nat) (k : List Value → Option β) : Option β :=
  @Nat.rec (fun _ => List Value → Option β) k (fun _ ih cs => @List.rec Value (fun _ => Option β) (ih []) (fun _ l _ => ih l) cs) o cs
theorem dropK_eq {k : List Value → Option β} : ∀ {o : Nat} {cs : List Value}, dropK cs o k = k (cs.drop o)
  | 0, cs => rfl
  | o + 1, [] => by
    have : dropK [] (o + 1) k = dropK [] o k := rfl
    rw [this, dropK_eq]; simp
  | o + 1, a :: cs => by
    have : dropK (a :: cs) (o + 1) k = dropK cs o k := rfl
    rw [this, dropK_eq]; simp
noncomputable def takeK (cs : List Value) (n : Nat) (k : List Value → Option β) : Option β :=
  @List.rec Value (fun _ => Nat → (List Value → Option β) → Option β) (fun _ k => k []) (fun a _ ih n k => @Nat.rec (fun _ => Option β) (k []) (fun n _ => ih n fun l => k (a :: l)) n) cs n k
theorem takeK_eq : ∀ {cs : List Value} {n : Nat} {k : List Value → Option β}, takeK cs n k = k (cs.take n)
  | [], n, k => by cases n <;> rfl
  | a :: cs, 0, k => rfl
  | a :: cs, n + 1, k => by
    have : takeK (a :: cs) (n + 1) k = takeK cs n fun l => k (a :: l) := rfl
    rw [this, takeK_eq]; simp
noncomputable def appK (cs : List Value) (new : List Value) (k : List Value → Option β) : Option β :=
  @List.rec Value (fun _ => (List Value → Option β) → Option β) (fun k => k new) (fun a _ ih k => ih fun l => k (a :: l)) cs k
theorem appK_eq : ∀ {cs new : List Value} {k : List Value → Option β}, appK cs new k = k (cs ++ new)
  | [], new, k => rfl
  | a :: cs, new, k => by
    have : appK (a :: cs) new k = appK cs new fun l => k (a :: l) := rfl
    rw [this, appK_eq]; simp
/-- Is it one cell? -/
noncomputable def oneB (x : Value) : Bool := @Value.rec (fun _ => Bool) (fun _ => PUnit) (fun _ => PUnit) (fun _ => true) (fun _ _ => true) (fun _ _ => true) (fun _ _ _ => true) (fun _ => true) (fun _ => true) (fun _ _ _ => true) (fun _ => true) (fun _ => true) (fun _ _ _ _ _ => true) true (fun _ _ _ => true) true (fun _ _ => false) (fun _ _ => false) (fun _ _ => PUnit.unit) PUnit.unit (fun _ _ _ _ => PUnit.unit) x
theorem oneB_eq {x : Value} (h : oneB x = true) : oneCell x = true ∧ x.cells = #[x] := by
  cases x <;> first | exact ⟨rfl, rfl⟩ | cases h
noncomputable def allOneB (l : List Value) : Bool := @List.rec Value (fun _ => Bool) true (fun a _ ih => @Bool.rec (fun _ => Bool) false ih (oneB a)) l
theorem allOneB_eq : ∀ {l : List Value}, allOneB l = true → l.all oneCell = true
  | [], _ => rfl
  | a :: l, h => by
    have h' : @Bool.rec (fun _ => Bool) false (allOneB l) (oneB a) = true := h
    cases ha : oneB a with
    | false => rw [ha] at h'; cases h'
    | true => rw [ha] at h'; simp [(oneB_eq ha).1, allOneB_eq (l := l) h']
/-- The cells of a value. -/
noncomputable def cellsOf (x : Value) (k : List Value → Option β) : Option β := @Value.rec (fun _ => Option β) (fun _ => PUnit) (fun _ => PUnit) (fun _ => k [x]) (fun _ _ => k [x]) (fun _ _ => k [x]) (fun _ _ _ => k [x]) (fun _ => k [x]) (fun _ => k [x]) (fun _ _ _ => k [x]) (fun _ => k [x]) (fun _ => k [x]) (fun _ _ _ _ _ => k [x]) (k [x]) (fun _ _ _ => k [x]) (k [x]) (fun a _ => @Array.rec Value (fun _ => Option β) k a) (fun _ _ => k [x]) (fun _ _ => PUnit.unit) PUnit.unit (fun _ _ _ _ => PUnit.unit) x
theorem cellsOf_eq (x : Value) (k : List Value → Option β) : cellsOf x k = k x.cells.toList := by
  cases x <;> rfl

/-! ### rows of bytes -/
theorem bytesL_len : ∀ (n len : Nat), (bytesL n len).length = len
  | _, 0 => rfl
  | n, len + 1 => by simp [bytesL, bytesL_len (n / 256) len]
theorem bytesL_get : ∀ (n len o : Nat), (bytesL n len)[o]? = if o < len then some (.int .u8 (.ofNat (n / 256 ^ o % 256))) else none
  | n, 0, o => by simp [bytesL]
  | n, len + 1, 0 => by simp [bytesL]
  | n, len + 1, o + 1 => by
    simp only [bytesL, List.getElem?_cons_succ, bytesL_get (n / 256) len o]
    by_cases h : o < len
    · rw [if_pos h, if_pos (by omega), Nat.div_div_eq_div_mul, Nat.pow_succ, Nat.mul_comm]
    · rw [if_neg h, if_neg (by omega)]
/-- One cell of a block, in bounds. -/
noncomputable def cellR (o hi : Nat) (k : Value → Option β) (r : Raw) : Option β :=
  @Raw.rec (fun _ => Option β) (fun obj => cellsK obj fun cs _ wsz _ _ => ifK (Nat.ble wsz hi) (ifK (Nat.ble (Nat.succ o) hi) (nthK cs o k)))
    (fun n len _ wsz _ _ => ifK (Nat.ble wsz hi) (ifK (Nat.ble (Nat.succ o) hi) (ifK (Nat.ble (Nat.succ o) len) (k (.int .u8 (.ofNat (Nat.mod (Nat.shiftRight n (Nat.mul 8 o)) 256))))))) r
theorem nthK_eq {f : Value → Option β} : ∀ {cs : List Value} {o : Nat}, nthK cs o f = someK cs[o]? f
  | [], o => by simp [nthK, someK]
  | v :: cs, 0 => rfl
  | v :: cs, o + 1 => by
    have : nthK (v :: cs) (o + 1) f = nthK cs o f := rfl
    rw [this, nthK_eq]; simp
theorem cellR_ok (o hi : Nat) (k : Value → Option β) : NormOk (cellR o hi k) := by
  intro r
  cases r with
  | obj => rfl
  | bytes n len e wsz z x =>
    show ifK _ (ifK _ (ifK (Nat.ble (Nat.succ o) len) (k (.int .u8 (.ofNat (Nat.mod (Nat.shiftRight n (Nat.mul 8 o)) 256)))))) = ifK _ (ifK _ (nthK (bytesL n len) o k))
    rw [nthK_eq, bytesL_get]
    have e : Nat.mod (Nat.shiftRight n (Nat.mul 8 o)) 256 = n / 256 ^ o % 256 := by
      show (n >>> (8 * o)) % 256 = _
      rw [Nat.shiftRight_eq_div_pow, Nat.pow_mul]
    rw [e]
    by_cases h : o < len
    · rw [if_pos h]
      have : Nat.ble (Nat.succ o) len = true := Nat.ble_eq.mpr h
      rw [this]; rfl
    · rw [if_neg h]
      have : Nat.ble (Nat.succ o) len = false := by
        cases hb : Nat.ble (Nat.succ o) len with
        | false => rfl
        | true => exact absurd (Nat.le_of_ble_eq_true hb) h
      rw [this]; rfl
noncomputable def loadK (b o hi : Nat) (s : St) (k : Value → Option β) : Option β := rawK b s (cellR o hi k) (cellR_ok o hi k)
theorem loadK_some {b o hi : Nat} {s : St} {k} {r : β} (h : loadK b o hi s k = some r) : ∃ cs e w z x v, s.h.get b = some (.cells cs e w z x) ∧ w ≤ hi ∧ o + 1 ≤ hi ∧ cs[o]? = some v ∧ k v = some r := by
  obtain ⟨obj, h1, h⟩ := rawK_some h
  replace h := cellsK_some (h : cellsK obj _ = some r); obtain ⟨cs, e, w, z, x, rfl, h⟩ := h
  obtain ⟨h2, h⟩ := ifK_some h
  obtain ⟨h3, h⟩ := ifK_some h
  obtain ⟨v, h4, h⟩ := nthK_some h
  exact ⟨cs, e, w, z, x, v, h1, Nat.le_of_ble_eq_true h2, Nat.le_of_ble_eq_true h3, h4, h⟩

/-- A list of bytes as one number: its number and its length; none: it isn't one. -/
noncomputable def packN (l : List Value) (no : Option β) (k : Nat → Option β) : Option β :=
  @List.rec Value (fun _ => (Nat → Option β) → Option β) (fun k => k 0) (fun v _ ih k =>
    @Value.rec (fun _ => Option β) (fun _ => PUnit) (fun _ => PUnit) (fun _ => no) (fun j i => @IntKind.rec (fun _ => Option β) no no no no (@Int.rec (fun _ => Option β) (fun c => @Bool.rec (fun _ => Option β) no (ih fun m => k (Nat.add c (Nat.mul 256 m))) (Nat.ble c 255)) (fun _ => no) i) no no no j) (fun _ _ => no) (fun _ _ _ => no) (fun _ => no) (fun _ => no) (fun _ _ _ => no) (fun _ => no) (fun _ => no) (fun _ _ _ _ _ => no) no (fun _ _ _ => no) no (fun _ _ => no) (fun _ _ => no) (fun _ _ => PUnit.unit) PUnit.unit (fun _ _ _ _ => PUnit.unit) v) l k
theorem packN_some {no : Option β} {r : β} : ∀ {l : List Value} {k}, packN l no k = some r → no = some r ∨ ∃ m, l = bytesL m l.length ∧ k m = some r
  | [], k, h => .inr ⟨0, rfl, h⟩
  | v :: l, k, h => by
    cases v <;> first | exact .inl h | skip
    rename_i j i
    cases j <;> first | exact .inl h | skip
    cases i <;> first | exact .inl h | skip
    rename_i c
    have h' : @Bool.rec (fun _ => Option β) no (packN l no fun m => k (Nat.add c (Nat.mul 256 m))) (Nat.ble c 255) = some r := h
    cases hb : Nat.ble c 255 with
    | false => rw [hb] at h'; exact .inl h'
    | true =>
      rw [hb] at h'
      rcases packN_some h' with h2 | ⟨m, h2, h3⟩
      · exact .inl h2
      · have hc : c ≤ 255 := Nat.le_of_ble_eq_true hb
        refine .inr ⟨c + 256 * m, ?_, h3⟩
        simp only [List.length_cons, bytesL]
        have e1 : (c + 256 * m) % 256 = c := by omega
        have e2 : (c + 256 * m) / 256 = m := by omega
        rw [e1, e2, ← h2]
theorem bytesL_append : ∀ (n len m l2 : Nat), n < 256 ^ len → bytesL (n + 256 ^ len * m) (len + l2) = bytesL n len ++ bytesL m l2
  | n, 0, m, l2, h => by
    have : n = 0 := by simpa using h
    subst this
    simp [bytesL]
  | n, len + 1, m, l2, h => by
    have e : len + 1 + l2 = (len + l2) + 1 := by omega
    rw [e]
    simp only [bytesL, List.cons_append]
    have hp : 256 ^ (len + 1) = 256 * 256 ^ len := by rw [Nat.pow_succ, Nat.mul_comm]
    have h1 : (n + 256 ^ (len + 1) * m) % 256 = n % 256 := by rw [hp, Nat.mul_assoc]; omega
    have h2 : (n + 256 ^ (len + 1) * m) / 256 = n / 256 + 256 ^ len * m := by rw [hp, Nat.mul_assoc]; omega
    rw [h1, h2, bytesL_append (n / 256) len m l2 (by rw [hp] at h; omega)]

/-- A row, kept as one number if it is one of bytes. -/
noncomputable def rowK (byte : Bool) (l : List Value) (n : Nat) (e : TypeId) (w : Nat) (z x : Bool) (k : Raw → Option β) : Option β :=
  @Bool.rec (fun _ => Option β) (k (.obj (.cells l e w z x))) (packN l (k (.obj (.cells l e w z x))) fun m => k (.bytes m n e w z x)) byte
theorem rowK_some {byte : Bool} {l : List Value} {n : Nat} {e w z x} {k : Raw → Option β} {r : β} (hn : l.length = n) (h : rowK byte l n e w z x k = some r) : ∃ raw : Raw, raw.norm = .cells l e w z x ∧ k raw = some r := by
  cases byte with
  | false => exact ⟨_, rfl, h⟩
  | true =>
    rcases packN_some (show packN l _ _ = some r from h) with h | ⟨m, h1, h2⟩
    · exact ⟨_, rfl, h⟩
    · exact ⟨_, by simp only [Raw.norm]; rw [← hn, ← h1], h2⟩
theorem bytesL_part : ∀ (n len o m : Nat), o + m ≤ len → ((bytesL n len).drop o).take m = bytesL (n / 256 ^ o) m
  | n, len, o, 0, h => by simp [bytesL]
  | n, 0, o, m + 1, h => by omega
  | n, len + 1, 0, m + 1, h => by
    have := bytesL_part (n / 256) len 0 m (by omega)
    simp only [List.drop_zero, Nat.pow_zero, Nat.div_one] at this
    simp [bytesL, this]
  | n, len + 1, o + 1, m + 1, h => by
    have := bytesL_part (n / 256) len o (m + 1) (by omega)
    have e : n / 256 ^ (o + 1) = n / 256 / 256 ^ o := by rw [Nat.div_div_eq_div_mul, Nat.pow_succ, Nat.mul_comm]
    rw [e, ← this]
    rfl
noncomputable def bytesR (n len : Nat) : List Value := @Nat.rec (fun _ => Nat → List Value) (fun _ => []) (fun _ ih n => .int .u8 (.ofNat (Nat.mod n 256)) :: ih (Nat.div n 256)) len n
theorem bytesR_eq : ∀ (n len : Nat), bytesR n len = bytesL n len
  | _, 0 => rfl
  | n, len + 1 => by
    have : bytesR n (len + 1) = .int .u8 (.ofNat (Nat.mod n 256)) :: bytesR (Nat.div n 256) len := rfl
    rw [this, bytesR_eq]; rfl
/-- Some cells of a block, in bounds. -/
noncomputable def partR (o n hi : Nat) (k : List Value → Option β) (r : Raw) : Option β :=
  @Raw.rec (fun _ => Option β) (fun obj => cellsK obj fun cs _ wsz _ _ => ifK (Nat.ble wsz hi) (ifK (Nat.ble (Nat.add o n) hi) (dropK cs o fun l => takeK l n k)))
    (fun m len _ wsz _ _ => ifK (Nat.ble wsz hi) (ifK (Nat.ble (Nat.add o n) hi) (@Bool.rec (fun _ => Option β) (dropK (bytesL m len) o fun l => takeK l n k) (k (bytesR (Nat.shiftRight m (Nat.mul 8 o)) n)) (Nat.ble (Nat.add o n) len)))) r
theorem partR_ok (o n hi : Nat) (k : List Value → Option β) : NormOk (partR o n hi k) := by
  intro r
  cases r with
  | obj => rfl
  | bytes m len e wsz z x =>
    show ifK _ (ifK _ (@Bool.rec (fun _ => Option β) (dropK (bytesL m len) o fun l => takeK l n k) (k (bytesR (Nat.shiftRight m (Nat.mul 8 o)) n)) (Nat.ble (Nat.add o n) len))) = ifK _ (ifK _ (dropK (bytesL m len) o fun l => takeK l n k))
    congr 2
    cases hb : Nat.ble (Nat.add o n) len with
    | false => rfl
    | true =>
      have hle : o + n ≤ len := Nat.le_of_ble_eq_true hb
      rw [dropK_eq, takeK_eq, bytesL_part m len o n hle, bytesR_eq]
      have : Nat.shiftRight m (Nat.mul 8 o) = m / 256 ^ o := by
        show m >>> (8 * o) = _
        rw [Nat.shiftRight_eq_div_pow, Nat.pow_mul]
      rw [this]
noncomputable def partK (b o n hi : Nat) (s : St) (k : List Value → Option β) : Option β := rawK b s (partR o n hi k) (partR_ok o n hi k)
theorem partK_some {b o n hi : Nat} {s : St} {k} {r : β} (h : partK b o n hi s k = some r) : ∃ cs e w z x, s.h.get b = some (.cells cs e w z x) ∧ w ≤ hi ∧ o + n ≤ hi ∧ k ((cs.drop o).take n) = some r := by
  obtain ⟨obj, h1, h⟩ := rawK_some h
  replace h := cellsK_some (h : cellsK obj _ = some r); obtain ⟨cs, e, w, z, x, rfl, h⟩ := h
  obtain ⟨h2, h⟩ := ifK_some h
  obtain ⟨h3, h⟩ := ifK_some h
  rw [dropK_eq, takeK_eq] at h
  exact ⟨cs, e, w, z, x, h1, Nat.le_of_ble_eq_true h2, Nat.le_of_ble_eq_true h3, h⟩

/-! ### numbers -/
inductive NC where
  | mk (f : Int → Int → (Value → Out) → Out)
  | bad
noncomputable def NC.run (c : NC) (a b : Int) (k : Value → Out) : Out := @NC.rec (fun _ => Out) (fun f => f a b k) none c
def limit (j : IntKind) : Nat := match j with
  | .i8 => 128 | .i16 => 32768 | .i32 => 2147483648 | .i64 => 9223372036854775808
  | .u8 => 256 | .u16 => 65536 | .u32 => 4294967296 | .u64 => 18446744073709551616
theorem wrapI_ofNat (j : IntKind) (n : Nat) (h : Nat.blt n (limit j) = true) : wrapI j (.ofNat n) = .ofNat n := by
  rw [Nat.blt_eq] at h
  cases j <;> simp only [wrapI, limit, modI, sgnI] at h ⊢ <;> first
    | (rw [Nat.mod_eq_of_lt h])
    | (rw [Nat.mod_eq_of_lt (by omega), Nat.blt_eq.mpr h]; rfl)
noncomputable def nats (a b : Int) (slow : Out) (f : Nat → Nat → Out) : Out :=
  @Int.rec (fun _ => Out) (fun a => @Int.rec (fun _ => Out) (fun b => f a b) (fun _ => slow) b) (fun _ => slow) a
noncomputable def slowN (op : BinOp) (j : IntKind) (a b : Int) (k : Value → Out) : Out := optK (numOp op j a j b) k
noncomputable def numC (op : BinOp) (j : IntKind) : NC :=
  match op with
  | .add => .mk fun a b k => nats a b (slowN .add j a b k) fun m n => @Bool.rec (fun _ => Out) (slowN .add j a b k) (k (.int j (.ofNat (Nat.add m n)))) (Nat.blt (Nat.add m n) (limit j))
  | .sub => .mk fun a b k => nats a b (slowN .sub j a b k) fun m n => @Bool.rec (fun _ => Out) (slowN .sub j a b k) (@Bool.rec (fun _ => Out) (slowN .sub j a b k) (k (.int j (.ofNat (Nat.sub m n)))) (Nat.blt m (limit j))) (Nat.ble n m)
  | .mul => .mk fun a b k => nats a b (slowN .mul j a b k) fun m n => @Bool.rec (fun _ => Out) (slowN .mul j a b k) (k (.int j (.ofNat (Nat.mul m n)))) (Nat.blt (Nat.mul m n) (limit j))
  | .eql => .mk fun a b k => nats a b (slowN .eql j a b k) fun m n => k (.bool (Nat.beq m n))
  | .neq => .mk fun a b k => nats a b (slowN .neq j a b k) fun m n => k (.bool (@Bool.rec (fun _ => Bool) true false (Nat.beq m n)))
  | .lss => .mk fun a b k => nats a b (slowN .lss j a b k) fun m n => k (.bool (Nat.ble (Nat.succ m) n))
  | .leq => .mk fun a b k => nats a b (slowN .leq j a b k) fun m n => k (.bool (@Bool.rec (fun _ => Bool) true false (Nat.ble (Nat.succ n) m)))
  | .gtr => .mk fun a b k => nats a b (slowN .gtr j a b k) fun m n => k (.bool (Nat.ble (Nat.succ n) m))
  | .geq => .mk fun a b k => nats a b (slowN .geq j a b k) fun m n => k (.bool (@Bool.rec (fun _ => Bool) true false (Nat.ble (Nat.succ m) n)))
  | .shr => .mk fun a b k => nats a b (slowN .shr j a b k) fun m n => k (.int j (.ofNat (Nat.div m (Nat.pow 2 (Nat.min n j.bits)))))
  | .and => match j.signed with
    | false => .mk fun a b k => nats a b (slowN .and j a b k) fun m n => k (.int j (.ofNat (Nat.mod (Nat.land (Nat.mod m (modK j)) (Nat.mod n (modK j))) (modK j))))
    | true => .mk (slowN .and j)
  | .or => match j.signed with
    | false => .mk fun a b k => nats a b (slowN .or j a b k) fun m n => k (.int j (.ofNat (Nat.mod (Nat.lor (Nat.mod m (modK j)) (Nat.mod n (modK j))) (modK j))))
    | true => .mk (slowN .or j)
  | .xor => match j.signed with
    | false => .mk fun a b k => nats a b (slowN .xor j a b k) fun m n => k (.int j (.ofNat (Nat.mod (Nat.xor (Nat.mod m (modK j)) (Nat.mod n (modK j))) (modK j))))
    | true => .mk (slowN .xor j)
  | .shl => match j.signed with
    | false => .mk fun a b k => nats a b (slowN .shl j a b k) fun m n => k (.int j (.ofNat (Nat.mod (Nat.mul m (Nat.pow 2 (Nat.min n j.bits))) (modK j))))
    | true => .mk (slowN .shl j)
  | op => .mk (slowN op j)
theorem nats_some {a b : Int} {slow : Out} {f} {r} (h : nats a b slow f = some r) : (∃ m n, a = .ofNat m ∧ b = .ofNat n ∧ f m n = some r) ∨ slow = some r := by
  cases a with
  | negSucc a => exact .inr h
  | ofNat m => cases b with
    | negSucc b => exact .inr h
    | ofNat n => exact .inl ⟨m, n, rfl, rfl, h⟩
def NSpec (op : BinOp) (j : IntKind) (f : Int → Int → (Value → Out) → Out) : Prop := ∀ a b k r, f a b k = some r → ∃ v, numOp op j a j b = some v ∧ k v = some r
theorem slowN_ok (op : BinOp) (j : IntKind) : NSpec op j (slowN op j) := fun a b k r h => optK_some h
theorem boolRec_some {b : Bool} {x y : Out} {r} (h : @Bool.rec (fun _ => Out) x y b = some r) : (b = true ∧ y = some r) ∨ (b = false ∧ x = some r) := by
  cases b with
  | false => exact .inr ⟨rfl, h⟩
  | true => exact .inl ⟨rfl, h⟩
theorem not_rec (b : Bool) : @Bool.rec (fun _ => Bool) true false b = !b := by cases b <;> rfl

theorem numC_ok (op : BinOp) (j : IntKind) {f} (hf : numC op j = .mk f) : NSpec op j f := by
  have W := wrapI_ofNat j
  unfold numC at hf
  cases op <;> simp only at hf
  case add =>
    cases hf; intro a b k r h
    rcases nats_some h with ⟨m, n, rfl, rfl, h⟩ | h
    · rcases boolRec_some h with ⟨hb, h⟩ | ⟨hb, h⟩
      · refine ⟨_, ?_, h⟩
        have : wrapI j (Int.ofNat m + Int.ofNat n) = .ofNat (m + n) := W (m + n) hb
        simp only [numOp, ne_eq, not_true_eq_false, if_false, this]; rfl
      · exact slowN_ok _ _ _ _ _ _ h
    · exact slowN_ok _ _ _ _ _ _ h
  case mul =>
    cases hf; intro a b k r h
    rcases nats_some h with ⟨m, n, rfl, rfl, h⟩ | h
    · rcases boolRec_some h with ⟨hb, h⟩ | ⟨hb, h⟩
      · refine ⟨_, ?_, h⟩
        have : wrapI j (Int.ofNat m * Int.ofNat n) = .ofNat (m * n) := W (m * n) hb
        simp only [numOp, ne_eq, not_true_eq_false, if_false, this]; rfl
      · exact slowN_ok _ _ _ _ _ _ h
    · exact slowN_ok _ _ _ _ _ _ h
  case sub =>
    cases hf; intro a b k r h
    rcases nats_some h with ⟨m, n, rfl, rfl, h⟩ | h
    · rcases boolRec_some h with ⟨hb, h⟩ | ⟨hb, h⟩
      · rcases boolRec_some h with ⟨hc, h⟩ | ⟨hc, h⟩
        · refine ⟨_, ?_, h⟩
          have hle := Nat.le_of_ble_eq_true hb
          rw [Nat.blt_eq] at hc
          have e : (Int.ofNat m - Int.ofNat n) = Int.ofNat (m - n) := (Int.ofNat_sub hle).symm
          have : wrapI j (Int.ofNat m - Int.ofNat n) = .ofNat (m - n) := by rw [e]; exact W (m - n) (by rw [Nat.blt_eq]; omega)
          simp only [numOp, ne_eq, not_true_eq_false, if_false, this]; rfl
        · exact slowN_ok _ _ _ _ _ _ h
      · exact slowN_ok _ _ _ _ _ _ h
    · exact slowN_ok _ _ _ _ _ _ h
  case eql =>
    cases hf; intro a b k r h
    rcases nats_some h with ⟨m, n, rfl, rfl, h⟩ | h
    · exact ⟨_, by simp [numOp, eqI], h⟩
    · exact slowN_ok _ _ _ _ _ _ h
  case neq =>
    cases hf; intro a b k r h
    rcases nats_some h with ⟨m, n, rfl, rfl, h⟩ | h
    · exact ⟨_, by simp [numOp, eqI, not_rec], h⟩
    · exact slowN_ok _ _ _ _ _ _ h
  case lss =>
    cases hf; intro a b k r h
    rcases nats_some h with ⟨m, n, rfl, rfl, h⟩ | h
    · exact ⟨_, by simp [numOp, ltI, Nat.blt], h⟩
    · exact slowN_ok _ _ _ _ _ _ h
  case leq =>
    cases hf; intro a b k r h
    rcases nats_some h with ⟨m, n, rfl, rfl, h⟩ | h
    · exact ⟨_, by simp only [numOp, ltI, Nat.blt, ne_eq, not_true_eq_false, if_false, not_rec], h⟩
    · exact slowN_ok _ _ _ _ _ _ h
  case gtr =>
    cases hf; intro a b k r h
    rcases nats_some h with ⟨m, n, rfl, rfl, h⟩ | h
    · exact ⟨_, by simp only [numOp, ltI, Nat.blt, ne_eq, not_true_eq_false, if_false], h⟩
    · exact slowN_ok _ _ _ _ _ _ h
  case geq =>
    cases hf; intro a b k r h
    rcases nats_some h with ⟨m, n, rfl, rfl, h⟩ | h
    · exact ⟨_, by simp only [numOp, ltI, Nat.blt, ne_eq, not_true_eq_false, if_false, not_rec], h⟩
    · exact slowN_ok _ _ _ _ _ _ h
  case shr =>
    cases hf; intro a b k r h
    rcases nats_some h with ⟨m, n, rfl, rfl, h⟩ | h
    · exact ⟨_, by simp only [numOp]; rfl, h⟩
    · exact slowN_ok _ _ _ _ _ _ h
  case and =>
    cases j <;> simp only [IntKind.signed] at hf <;> cases hf <;> first | exact slowN_ok _ _ | skip
    all_goals
      intro a b k r h
      rcases nats_some h with ⟨m, n, rfl, rfl, h⟩ | h
      · exact ⟨_, by simp only [numOp, ne_eq, not_true_eq_false, if_false]; rfl, h⟩
      · exact slowN_ok _ _ _ _ _ _ h
  case or =>
    cases j <;> simp only [IntKind.signed] at hf <;> cases hf <;> first | exact slowN_ok _ _ | skip
    all_goals
      intro a b k r h
      rcases nats_some h with ⟨m, n, rfl, rfl, h⟩ | h
      · exact ⟨_, by simp only [numOp, ne_eq, not_true_eq_false, if_false]; rfl, h⟩
      · exact slowN_ok _ _ _ _ _ _ h
  case xor =>
    cases j <;> simp only [IntKind.signed] at hf <;> cases hf <;> first | exact slowN_ok _ _ | skip
    all_goals
      intro a b k r h
      rcases nats_some h with ⟨m, n, rfl, rfl, h⟩ | h
      · exact ⟨_, by simp only [numOp, ne_eq, not_true_eq_false, if_false]; rfl, h⟩
      · exact slowN_ok _ _ _ _ _ _ h
  case shl =>
    cases j <;> simp only [IntKind.signed] at hf <;> cases hf <;> first | exact slowN_ok _ _ | skip
    all_goals
      intro a b k r h
      rcases nats_some h with ⟨m, n, rfl, rfl, h⟩ | h
      · exact ⟨_, by simp only [numOp]; rfl, h⟩
      · exact slowN_ok _ _ _ _ _ _ h
  all_goals
    cases hf; exact slowN_ok _ _
end Go.Eng
