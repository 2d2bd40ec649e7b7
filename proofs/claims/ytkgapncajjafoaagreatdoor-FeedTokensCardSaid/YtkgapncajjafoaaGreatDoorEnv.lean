/- The tables of the program are the program's: what the evaluator needs to know of it. -/
import Derived.Test.YtkgapncajjafoaaGreatDoorTab
import Derived.Test.YtkgapncajjafoaaGreatDoorEj
set_option linter.all false
set_option maxRecDepth 100000
namespace Go.Proofs.YtkgapncajjafoaaGreatDoor
open Go Go.Eng
noncomputable def extS (f : FuncId) (args : List Value) (s : St) : Option (Value × St) :=
  match f, args with
  | 120, [x] => some (x, s)
  | 121, [.int .i64 (.ofNat n)] => if n ≤ 281474976710656 then some (.slice (some (s.row 5 [] false).1) n 0, (s.row 5 [] false).2) else none
  | 124, [x, y] => match sliceBytes s x, sliceBytes s y with
    | some bx, some bby => some (.int .i64 (Lib.compareBytes bx bby), s)
    | _, _ => none
  | _, _ => none
noncomputable def globS (g : Nat) : Option Value := bif Nat.beq g 1 then some (.pointer (some ⟨0, 0, some 2⟩)) else none
noncomputable def EB : Env := { tt := tt, ft := ft, glob := globS, eqok := fun t => !Tryz.prog.stoodInHeld t && !Tryz.prog.eqGuardType Tryz.prog.depth t, lies := fun e c o u => liesAt Tryz.prog Tryz.prog.depth e (c / Tryz.prog.cellsOf e) o u 1, ext := extS, orc := fun _ _ _ => none }
theorem f120_at : Tryz.prog.funcs[120]? = some Tryz.f120 := by kernel_rfl
theorem f121_at : Tryz.prog.funcs[121]? = some Tryz.f121 := by kernel_rfl
theorem f124_at : Tryz.prog.funcs[124]? = some Tryz.f124 := by kernel_rfl
theorem EB_ok : EB.Ok Tryz.prog where
  tt := fun t i h => by
    have h : tt.get t = some i := h
    rw [tt_eq, T.get_ofList, Array.getElem?_toList] at h
    have hlt := (Array.getElem?_eq_some_iff.1 h).1
    have : Tryz.prog.info? t = Tryz.prog.types[t]? := by unfold Tables.info?; rw [if_pos hlt]
    rw [this]; exact h
  ft := fun f fn h => by
    have h : ft.get f = some fn := h
    rw [ft_eq, T.get_ofList, Array.getElem?_toList] at h
    exact h
  eqok := fun t h => by
    simp only [EB, Bool.and_eq_true, Bool.not_eq_true'] at h
    exact h
  lies := fun e c o u h => h
  ext := by
    intro f args s v s' h fn hf hb ρ w args' hr ha
    have h : extS f args s = some (v, s') := h
    unfold extS at h
    split at h
    · cases h
      rw [f120_at] at hf; cases hf
      exact ext_noEscape f120_at (by kernel_rfl) (by kernel_rfl) (by kernel_rfl) (by kernel_rfl) hr ha
    · split at h
      · rename_i hn
        cases h
        exact ext_makeNoZero f121_at (by kernel_rfl) (by kernel_rfl) (by kernel_rfl) (ps := Tryz.f121.params) (t := 34) (by kernel_rfl) (by kernel_rfl) (by kernel_rfl) hn hr ha
      · cases h
    · split at h
      · rename_i bx bby h1 h2
        cases h
        exact ext_compare f124_at (by kernel_rfl) (by kernel_rfl) (by kernel_rfl) (by kernel_rfl) hr h1 h2 ha
      · cases h
    · cases h
end Go.Proofs.YtkgapncajjafoaaGreatDoor
