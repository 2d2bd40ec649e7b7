/- feed.row.digits: the loop that counts. Printed by a program. -/
import Derived.Test.YtkgapncajjafoaaGreatDoorOrc
import Derived.Test.YtkgapncajjafoaaGreatDoorEk
set_option linter.all false
set_option maxRecDepth 100000
namespace Go.Proofs.YtkgapncajjafoaaGreatDoor
open Go Go.Eng
def seqL : Code → Code | .seq a _ => a | c => c
def seqR : Code → Code | .seq _ b => b | c => c
def inB : Code → Code | .block _ (.loop c) => c | c => c
def opsOf : Code → Array Oper | .region _ ops _ => ops | _ => #[]
def bodyOf (f : Func) : Code := f.body.getD .skip
noncomputable def d0 : Code := bodyOf Tryz.f19
noncomputable def dLoop : Code := inB (seqL (seqR d0))
noncomputable def dTest : Array Oper := opsOf (seqL (seqL dLoop))
noncomputable def dMore : Code := seqR dLoop
theorem dLoop_eq : dLoop = .seq (.seq (.region 1 dTest false) (.cond (.tmp 16) .skip (.exit 0))) dMore := by kernel_rfl
theorem dTest_size : List.range dTest.size = [0, 1, 2, 3, 4] ++ [5, 6, 7, 8] := by kernel_rfl
theorem EB_true : EB.True Tryz.prog := fun f args s v s' h => by cases h
abbrev noCall : ANext → St → Option (AEnd × St) := fun _ _ => none
theorem noCall_ok : ∀ a s r, noCall a s = some r → CallOk Tryz.prog EB a s r := fun a s r h => by cases h
theorem opsF_app {E : Env} {call : ANext → St → Option (AEnd × St)} {ir : Bool} {ops : Array Oper} {l2 : List Nat} {fr1 : Fr} {s1 : St} : ∀ {l1 : List Nat} {fr : Fr} {s : St}, opsF E call ir ops l1 fr s = some (.normal, fr1, s1) → opsF E call ir ops (l1 ++ l2) fr s = opsF E call ir ops l2 fr1 s1
  | [], fr, s, h => by
    simp only [opsF, Option.some.injEq, Prod.mk.injEq, true_and] at h
    obtain ⟨rfl, rfl⟩ := h
    rfl
  | i :: l1, fr, s, h => by
    simp only [opsF, List.cons_append] at h ⊢
    split at h
    · cases h
    · rename_i o ho
      split at h
      · rename_i hw
        rw [if_pos hw]
        split at h
        · rename_i a ha
          split at h
          · rename_i fr2 s2 hn
            exact opsF_app h
          · rename_i hn
            rw [h] at hn
            exact absurd rfl (hn _ _)
        · cases h
      · rename_i hw
        rw [if_neg hw]
        exact opsF_app h
/-- A frame of digits: what counts, and the rest. -/
def frD (p : Value) (n : Nat) (L : Nat) (many : Nat) (x3 x4 x5 x7 x8 x9 x10 x11 x12 x13 x14 x15 x16 x17 x18 : Value) : F :=
  F.ofList [p, .int .u64 (.ofNat n), .int .i64 (.ofNat L), x3, x4, x5, .int .i64 (.ofNat many), x7, x8, x9, x10, x11, x12, x13, x14, x15, x16, x17, x18]
def AtD (p : Value) (n L many : Nat) (t : F) : Prop := ∃ x3 x4 x5 x7 x8 x9 x10 x11 x12 x13 x14 x15 x16 x17 x18, t = frD p n L many x3 x4 x5 x7 x8 x9 x10 x11 x12 x13 x14 x15 x16 x17 x18
abbrev FromD (c : List Item) (t : F) (s : St) (e : AExit) (t' : F) : Prop := From Tryz.prog EB ⟨19, none⟩ c ⟨t, 42, []⟩ s (e, ⟨t', 42, []⟩, s)
theorem FromD.region {t t' : F} {s : St} (h : opsF EB noCall false dTest ([0, 1, 2, 3, 4] ++ [5, 6, 7, 8]) ⟨t, 42, []⟩ s = some (.normal, ⟨t', 42, []⟩, s)) : FromD [.code (.region 1 dTest false)] t s .normal t' := by
  refine regionF_ok (P := Tryz.prog) EB_ok mixed noCall_ok (ctx := ⟨19, none⟩) (id := 1) (draw := false) ?_
  unfold regionF
  simp only [Bool.false_eq_true, if_false]
  rw [dTest_size]
  exact h
theorem FromD.exec {c : Code} {t t' : F} {s : St} {e : AExit} {m : Nat} (h : Eng.exec EB m ⟨19, none⟩ c ⟨t, 42, []⟩ s = some (e, ⟨t', 42, []⟩, s)) : FromD [.code c] t s e t' := (exec_ok EB_ok mixed EB_true m).1 _ _ _ _ _ h

theorem dt1_1 (p : Value) (n L : Nat) (x3 x4 x5 x7 x8 x9 x10 x11 x12 x13 x14 x15 x16 x17 x18 : Value) (s : St) :
    opsF EB noCall false dTest [0, 1, 2, 3, 4] ⟨frD p n L 1 x3 x4 x5 x7 x8 x9 x10 x11 x12 x13 x14 x15 x16 x17 x18, 42, []⟩ s = some (.normal, ⟨frD p n L 1 x3 x4 x5 x7 (.int .u64 (.ofNat n)) (.int .i64 (.ofNat 1)) (.int .i64 (.ofNat 4)) (.int .u64 (.ofNat (n / 2 ^ (4 * 1)))) (.bool (Nat.blt 0 (n / 2 ^ (4 * 1)))) x13 x14 x15 x16 x17 x18, 42, []⟩, s) := by kernel_rfl
theorem dt2_1 (p : Value) (n L : Nat) (x3 x4 x5 x7 x8 x9 x10 x11 x13 x14 x15 x16 x17 x18 : Value) (s : St) :
    opsF EB noCall false dTest [5, 6, 7, 8] ⟨frD p n L 1 x3 x4 x5 x7 x8 x9 x10 x11 (.bool true) x13 x14 x15 x16 x17 x18, 42, []⟩ s = some (.normal, ⟨frD p n L 1 x3 x4 x5 x7 x8 x9 x10 x11 (.bool true) (.bool true) (.int .i64 (.ofNat 1)) (.bool true) (.bool true) x17 x18, 42, []⟩, s) := by kernel_rfl
theorem dt3_1 (p : Value) (n L : Nat) (x3 x4 x5 x7 x8 x9 x10 x11 x13 x14 x15 x16 x17 x18 : Value) (s : St) :
    opsF EB noCall false dTest [5, 6, 7, 8] ⟨frD p n L 1 x3 x4 x5 x7 x8 x9 x10 x11 (.bool false) x13 x14 x15 x16 x17 x18, 42, []⟩ s = some (.normal, ⟨frD p n L 1 x3 x4 x5 x7 x8 x9 x10 x11 (.bool false) (.bool false) (undef) (undef) (.bool false) x17 x18, 42, []⟩, s) := by kernel_rfl
theorem dm_1 (p : Value) (n L : Nat) (x3 x4 x5 x7 x8 x9 x10 x11 x12 x13 x14 x15 x16 x17 x18 : Value) (s : St) :
    Eng.exec EB 20 ⟨19, none⟩ dMore ⟨frD p n L 1 x3 x4 x5 x7 x8 x9 x10 x11 x12 x13 x14 x15 x16 x17 x18, 42, []⟩ s = some (.normal, ⟨frD p n L 2 x3 x4 x5 x7 x8 x9 x10 x11 x12 x13 x14 x15 x16 (.int .i64 (.ofNat 1)) (.int .i64 (.ofNat 2)), 42, []⟩, s) := by kernel_rfl
theorem stepD_1 {p : Value} {n L : Nat} {t : F} (s : St) (h : AtD p n L 1 t) (hb : Nat.blt 0 (n / 2 ^ (4 * 1)) = true) : ∃ t', AtD p n L 2 t' ∧ FromD [.code dLoop] t s .normal t' := by
  obtain ⟨x3, x4, x5, x7, x8, x9, x10, x11, x12, x13, x14, x15, x16, x17, x18, rfl⟩ := h
  have e1 := dt1_1 p n L x3 x4 x5 x7 x8 x9 x10 x11 x12 x13 x14 x15 x16 x17 x18 s
  rw [hb] at e1
  have f1 := FromD.region ((opsF_app e1).trans (dt2_1 _ _ _ _ _ _ _ _ _ _ _ _ _ _ _ _ _ _))
  have f2 := f1.seq (From.cond (a := .skip) (b := .exit 0) (c := .tmp 16) (t := true) rfl (From.now fun _ _ _ _ _ _ _ _ => st_skip))
  have f3 := f2.seq (FromD.exec (dm_1 _ _ _ _ _ _ _ _ _ _ _ _ _ _ _ _ _ _ _))
  exact ⟨_, ⟨_, _, _, _, _, _, _, _, _, _, _, _, _, _, _, rfl⟩, by rw [dLoop_eq]; exact f3⟩
theorem exitD_1 {p : Value} {n L : Nat} {t : F} (s : St) (h : AtD p n L 1 t) (hb : Nat.blt 0 (n / 2 ^ (4 * 1)) = false) : ∃ t', AtD p n L 1 t' ∧ FromD [.code dLoop] t s (.jump (.exit 0)) t' := by
  obtain ⟨x3, x4, x5, x7, x8, x9, x10, x11, x12, x13, x14, x15, x16, x17, x18, rfl⟩ := h
  have e1 := dt1_1 p n L x3 x4 x5 x7 x8 x9 x10 x11 x12 x13 x14 x15 x16 x17 x18 s
  rw [hb] at e1
  have f1 := FromD.region ((opsF_app e1).trans (dt3_1 _ _ _ _ _ _ _ _ _ _ _ _ _ _ _ _ _ _))
  have f2 := f1.seq (From.cond (a := .skip) (b := .exit 0) (c := .tmp 16) (t := false) rfl (From.jumps (c := .exit 0) fun k => by simp))
  have f3 := (f2.leaves (x := .code dMore) (by intro h; cases h) (fun _ _ _ => rfl) (fun _ _ _ => rfl)).steps (a := [.code (.seq (.seq (.region 1 dTest false) (.cond (.tmp 16) .skip (.exit 0))) dMore)]) fun _ _ _ _ _ _ _ _ => .one st_seq
  exact ⟨_, ⟨_, _, _, _, _, _, _, _, _, _, _, _, _, _, _, rfl⟩, by rw [dLoop_eq]; exact f3⟩
theorem dt1_2 (p : Value) (n L : Nat) (x3 x4 x5 x7 x8 x9 x10 x11 x12 x13 x14 x15 x16 x17 x18 : Value) (s : St) :
    opsF EB noCall false dTest [0, 1, 2, 3, 4] ⟨frD p n L 2 x3 x4 x5 x7 x8 x9 x10 x11 x12 x13 x14 x15 x16 x17 x18, 42, []⟩ s = some (.normal, ⟨frD p n L 2 x3 x4 x5 x7 (.int .u64 (.ofNat n)) (.int .i64 (.ofNat 2)) (.int .i64 (.ofNat 8)) (.int .u64 (.ofNat (n / 2 ^ (4 * 2)))) (.bool (Nat.blt 0 (n / 2 ^ (4 * 2)))) x13 x14 x15 x16 x17 x18, 42, []⟩, s) := by kernel_rfl
theorem dt2_2 (p : Value) (n L : Nat) (x3 x4 x5 x7 x8 x9 x10 x11 x13 x14 x15 x16 x17 x18 : Value) (s : St) :
    opsF EB noCall false dTest [5, 6, 7, 8] ⟨frD p n L 2 x3 x4 x5 x7 x8 x9 x10 x11 (.bool true) x13 x14 x15 x16 x17 x18, 42, []⟩ s = some (.normal, ⟨frD p n L 2 x3 x4 x5 x7 x8 x9 x10 x11 (.bool true) (.bool true) (.int .i64 (.ofNat 2)) (.bool true) (.bool true) x17 x18, 42, []⟩, s) := by kernel_rfl
theorem dt3_2 (p : Value) (n L : Nat) (x3 x4 x5 x7 x8 x9 x10 x11 x13 x14 x15 x16 x17 x18 : Value) (s : St) :
    opsF EB noCall false dTest [5, 6, 7, 8] ⟨frD p n L 2 x3 x4 x5 x7 x8 x9 x10 x11 (.bool false) x13 x14 x15 x16 x17 x18, 42, []⟩ s = some (.normal, ⟨frD p n L 2 x3 x4 x5 x7 x8 x9 x10 x11 (.bool false) (.bool false) (undef) (undef) (.bool false) x17 x18, 42, []⟩, s) := by kernel_rfl
theorem dm_2 (p : Value) (n L : Nat) (x3 x4 x5 x7 x8 x9 x10 x11 x12 x13 x14 x15 x16 x17 x18 : Value) (s : St) :
    Eng.exec EB 20 ⟨19, none⟩ dMore ⟨frD p n L 2 x3 x4 x5 x7 x8 x9 x10 x11 x12 x13 x14 x15 x16 x17 x18, 42, []⟩ s = some (.normal, ⟨frD p n L 3 x3 x4 x5 x7 x8 x9 x10 x11 x12 x13 x14 x15 x16 (.int .i64 (.ofNat 2)) (.int .i64 (.ofNat 3)), 42, []⟩, s) := by kernel_rfl
theorem stepD_2 {p : Value} {n L : Nat} {t : F} (s : St) (h : AtD p n L 2 t) (hb : Nat.blt 0 (n / 2 ^ (4 * 2)) = true) : ∃ t', AtD p n L 3 t' ∧ FromD [.code dLoop] t s .normal t' := by
  obtain ⟨x3, x4, x5, x7, x8, x9, x10, x11, x12, x13, x14, x15, x16, x17, x18, rfl⟩ := h
  have e1 := dt1_2 p n L x3 x4 x5 x7 x8 x9 x10 x11 x12 x13 x14 x15 x16 x17 x18 s
  rw [hb] at e1
  have f1 := FromD.region ((opsF_app e1).trans (dt2_2 _ _ _ _ _ _ _ _ _ _ _ _ _ _ _ _ _ _))
  have f2 := f1.seq (From.cond (a := .skip) (b := .exit 0) (c := .tmp 16) (t := true) rfl (From.now fun _ _ _ _ _ _ _ _ => st_skip))
  have f3 := f2.seq (FromD.exec (dm_2 _ _ _ _ _ _ _ _ _ _ _ _ _ _ _ _ _ _ _))
  exact ⟨_, ⟨_, _, _, _, _, _, _, _, _, _, _, _, _, _, _, rfl⟩, by rw [dLoop_eq]; exact f3⟩
theorem exitD_2 {p : Value} {n L : Nat} {t : F} (s : St) (h : AtD p n L 2 t) (hb : Nat.blt 0 (n / 2 ^ (4 * 2)) = false) : ∃ t', AtD p n L 2 t' ∧ FromD [.code dLoop] t s (.jump (.exit 0)) t' := by
  obtain ⟨x3, x4, x5, x7, x8, x9, x10, x11, x12, x13, x14, x15, x16, x17, x18, rfl⟩ := h
  have e1 := dt1_2 p n L x3 x4 x5 x7 x8 x9 x10 x11 x12 x13 x14 x15 x16 x17 x18 s
  rw [hb] at e1
  have f1 := FromD.region ((opsF_app e1).trans (dt3_2 _ _ _ _ _ _ _ _ _ _ _ _ _ _ _ _ _ _))
  have f2 := f1.seq (From.cond (a := .skip) (b := .exit 0) (c := .tmp 16) (t := false) rfl (From.jumps (c := .exit 0) fun k => by simp))
  have f3 := (f2.leaves (x := .code dMore) (by intro h; cases h) (fun _ _ _ => rfl) (fun _ _ _ => rfl)).steps (a := [.code (.seq (.seq (.region 1 dTest false) (.cond (.tmp 16) .skip (.exit 0))) dMore)]) fun _ _ _ _ _ _ _ _ => .one st_seq
  exact ⟨_, ⟨_, _, _, _, _, _, _, _, _, _, _, _, _, _, _, rfl⟩, by rw [dLoop_eq]; exact f3⟩
theorem dt1_3 (p : Value) (n L : Nat) (x3 x4 x5 x7 x8 x9 x10 x11 x12 x13 x14 x15 x16 x17 x18 : Value) (s : St) :
    opsF EB noCall false dTest [0, 1, 2, 3, 4] ⟨frD p n L 3 x3 x4 x5 x7 x8 x9 x10 x11 x12 x13 x14 x15 x16 x17 x18, 42, []⟩ s = some (.normal, ⟨frD p n L 3 x3 x4 x5 x7 (.int .u64 (.ofNat n)) (.int .i64 (.ofNat 3)) (.int .i64 (.ofNat 12)) (.int .u64 (.ofNat (n / 2 ^ (4 * 3)))) (.bool (Nat.blt 0 (n / 2 ^ (4 * 3)))) x13 x14 x15 x16 x17 x18, 42, []⟩, s) := by kernel_rfl
theorem dt2_3 (p : Value) (n L : Nat) (x3 x4 x5 x7 x8 x9 x10 x11 x13 x14 x15 x16 x17 x18 : Value) (s : St) :
    opsF EB noCall false dTest [5, 6, 7, 8] ⟨frD p n L 3 x3 x4 x5 x7 x8 x9 x10 x11 (.bool true) x13 x14 x15 x16 x17 x18, 42, []⟩ s = some (.normal, ⟨frD p n L 3 x3 x4 x5 x7 x8 x9 x10 x11 (.bool true) (.bool true) (.int .i64 (.ofNat 3)) (.bool true) (.bool true) x17 x18, 42, []⟩, s) := by kernel_rfl
theorem dt3_3 (p : Value) (n L : Nat) (x3 x4 x5 x7 x8 x9 x10 x11 x13 x14 x15 x16 x17 x18 : Value) (s : St) :
    opsF EB noCall false dTest [5, 6, 7, 8] ⟨frD p n L 3 x3 x4 x5 x7 x8 x9 x10 x11 (.bool false) x13 x14 x15 x16 x17 x18, 42, []⟩ s = some (.normal, ⟨frD p n L 3 x3 x4 x5 x7 x8 x9 x10 x11 (.bool false) (.bool false) (undef) (undef) (.bool false) x17 x18, 42, []⟩, s) := by kernel_rfl
theorem dm_3 (p : Value) (n L : Nat) (x3 x4 x5 x7 x8 x9 x10 x11 x12 x13 x14 x15 x16 x17 x18 : Value) (s : St) :
    Eng.exec EB 20 ⟨19, none⟩ dMore ⟨frD p n L 3 x3 x4 x5 x7 x8 x9 x10 x11 x12 x13 x14 x15 x16 x17 x18, 42, []⟩ s = some (.normal, ⟨frD p n L 4 x3 x4 x5 x7 x8 x9 x10 x11 x12 x13 x14 x15 x16 (.int .i64 (.ofNat 3)) (.int .i64 (.ofNat 4)), 42, []⟩, s) := by kernel_rfl
theorem stepD_3 {p : Value} {n L : Nat} {t : F} (s : St) (h : AtD p n L 3 t) (hb : Nat.blt 0 (n / 2 ^ (4 * 3)) = true) : ∃ t', AtD p n L 4 t' ∧ FromD [.code dLoop] t s .normal t' := by
  obtain ⟨x3, x4, x5, x7, x8, x9, x10, x11, x12, x13, x14, x15, x16, x17, x18, rfl⟩ := h
  have e1 := dt1_3 p n L x3 x4 x5 x7 x8 x9 x10 x11 x12 x13 x14 x15 x16 x17 x18 s
  rw [hb] at e1
  have f1 := FromD.region ((opsF_app e1).trans (dt2_3 _ _ _ _ _ _ _ _ _ _ _ _ _ _ _ _ _ _))
  have f2 := f1.seq (From.cond (a := .skip) (b := .exit 0) (c := .tmp 16) (t := true) rfl (From.now fun _ _ _ _ _ _ _ _ => st_skip))
  have f3 := f2.seq (FromD.exec (dm_3 _ _ _ _ _ _ _ _ _ _ _ _ _ _ _ _ _ _ _))
  exact ⟨_, ⟨_, _, _, _, _, _, _, _, _, _, _, _, _, _, _, rfl⟩, by rw [dLoop_eq]; exact f3⟩
theorem exitD_3 {p : Value} {n L : Nat} {t : F} (s : St) (h : AtD p n L 3 t) (hb : Nat.blt 0 (n / 2 ^ (4 * 3)) = false) : ∃ t', AtD p n L 3 t' ∧ FromD [.code dLoop] t s (.jump (.exit 0)) t' := by
  obtain ⟨x3, x4, x5, x7, x8, x9, x10, x11, x12, x13, x14, x15, x16, x17, x18, rfl⟩ := h
  have e1 := dt1_3 p n L x3 x4 x5 x7 x8 x9 x10 x11 x12 x13 x14 x15 x16 x17 x18 s
  rw [hb] at e1
  have f1 := FromD.region ((opsF_app e1).trans (dt3_3 _ _ _ _ _ _ _ _ _ _ _ _ _ _ _ _ _ _))
  have f2 := f1.seq (From.cond (a := .skip) (b := .exit 0) (c := .tmp 16) (t := false) rfl (From.jumps (c := .exit 0) fun k => by simp))
  have f3 := (f2.leaves (x := .code dMore) (by intro h; cases h) (fun _ _ _ => rfl) (fun _ _ _ => rfl)).steps (a := [.code (.seq (.seq (.region 1 dTest false) (.cond (.tmp 16) .skip (.exit 0))) dMore)]) fun _ _ _ _ _ _ _ _ => .one st_seq
  exact ⟨_, ⟨_, _, _, _, _, _, _, _, _, _, _, _, _, _, _, rfl⟩, by rw [dLoop_eq]; exact f3⟩
theorem dt1_4 (p : Value) (n L : Nat) (x3 x4 x5 x7 x8 x9 x10 x11 x12 x13 x14 x15 x16 x17 x18 : Value) (s : St) :
    opsF EB noCall false dTest [0, 1, 2, 3, 4] ⟨frD p n L 4 x3 x4 x5 x7 x8 x9 x10 x11 x12 x13 x14 x15 x16 x17 x18, 42, []⟩ s = some (.normal, ⟨frD p n L 4 x3 x4 x5 x7 (.int .u64 (.ofNat n)) (.int .i64 (.ofNat 4)) (.int .i64 (.ofNat 16)) (.int .u64 (.ofNat (n / 2 ^ (4 * 4)))) (.bool (Nat.blt 0 (n / 2 ^ (4 * 4)))) x13 x14 x15 x16 x17 x18, 42, []⟩, s) := by kernel_rfl
theorem dt2_4 (p : Value) (n L : Nat) (x3 x4 x5 x7 x8 x9 x10 x11 x13 x14 x15 x16 x17 x18 : Value) (s : St) :
    opsF EB noCall false dTest [5, 6, 7, 8] ⟨frD p n L 4 x3 x4 x5 x7 x8 x9 x10 x11 (.bool true) x13 x14 x15 x16 x17 x18, 42, []⟩ s = some (.normal, ⟨frD p n L 4 x3 x4 x5 x7 x8 x9 x10 x11 (.bool true) (.bool true) (.int .i64 (.ofNat 4)) (.bool true) (.bool true) x17 x18, 42, []⟩, s) := by kernel_rfl
theorem dt3_4 (p : Value) (n L : Nat) (x3 x4 x5 x7 x8 x9 x10 x11 x13 x14 x15 x16 x17 x18 : Value) (s : St) :
    opsF EB noCall false dTest [5, 6, 7, 8] ⟨frD p n L 4 x3 x4 x5 x7 x8 x9 x10 x11 (.bool false) x13 x14 x15 x16 x17 x18, 42, []⟩ s = some (.normal, ⟨frD p n L 4 x3 x4 x5 x7 x8 x9 x10 x11 (.bool false) (.bool false) (undef) (undef) (.bool false) x17 x18, 42, []⟩, s) := by kernel_rfl
theorem dm_4 (p : Value) (n L : Nat) (x3 x4 x5 x7 x8 x9 x10 x11 x12 x13 x14 x15 x16 x17 x18 : Value) (s : St) :
    Eng.exec EB 20 ⟨19, none⟩ dMore ⟨frD p n L 4 x3 x4 x5 x7 x8 x9 x10 x11 x12 x13 x14 x15 x16 x17 x18, 42, []⟩ s = some (.normal, ⟨frD p n L 5 x3 x4 x5 x7 x8 x9 x10 x11 x12 x13 x14 x15 x16 (.int .i64 (.ofNat 4)) (.int .i64 (.ofNat 5)), 42, []⟩, s) := by kernel_rfl
theorem stepD_4 {p : Value} {n L : Nat} {t : F} (s : St) (h : AtD p n L 4 t) (hb : Nat.blt 0 (n / 2 ^ (4 * 4)) = true) : ∃ t', AtD p n L 5 t' ∧ FromD [.code dLoop] t s .normal t' := by
  obtain ⟨x3, x4, x5, x7, x8, x9, x10, x11, x12, x13, x14, x15, x16, x17, x18, rfl⟩ := h
  have e1 := dt1_4 p n L x3 x4 x5 x7 x8 x9 x10 x11 x12 x13 x14 x15 x16 x17 x18 s
  rw [hb] at e1
  have f1 := FromD.region ((opsF_app e1).trans (dt2_4 _ _ _ _ _ _ _ _ _ _ _ _ _ _ _ _ _ _))
  have f2 := f1.seq (From.cond (a := .skip) (b := .exit 0) (c := .tmp 16) (t := true) rfl (From.now fun _ _ _ _ _ _ _ _ => st_skip))
  have f3 := f2.seq (FromD.exec (dm_4 _ _ _ _ _ _ _ _ _ _ _ _ _ _ _ _ _ _ _))
  exact ⟨_, ⟨_, _, _, _, _, _, _, _, _, _, _, _, _, _, _, rfl⟩, by rw [dLoop_eq]; exact f3⟩
theorem exitD_4 {p : Value} {n L : Nat} {t : F} (s : St) (h : AtD p n L 4 t) (hb : Nat.blt 0 (n / 2 ^ (4 * 4)) = false) : ∃ t', AtD p n L 4 t' ∧ FromD [.code dLoop] t s (.jump (.exit 0)) t' := by
  obtain ⟨x3, x4, x5, x7, x8, x9, x10, x11, x12, x13, x14, x15, x16, x17, x18, rfl⟩ := h
  have e1 := dt1_4 p n L x3 x4 x5 x7 x8 x9 x10 x11 x12 x13 x14 x15 x16 x17 x18 s
  rw [hb] at e1
  have f1 := FromD.region ((opsF_app e1).trans (dt3_4 _ _ _ _ _ _ _ _ _ _ _ _ _ _ _ _ _ _))
  have f2 := f1.seq (From.cond (a := .skip) (b := .exit 0) (c := .tmp 16) (t := false) rfl (From.jumps (c := .exit 0) fun k => by simp))
  have f3 := (f2.leaves (x := .code dMore) (by intro h; cases h) (fun _ _ _ => rfl) (fun _ _ _ => rfl)).steps (a := [.code (.seq (.seq (.region 1 dTest false) (.cond (.tmp 16) .skip (.exit 0))) dMore)]) fun _ _ _ _ _ _ _ _ => .one st_seq
  exact ⟨_, ⟨_, _, _, _, _, _, _, _, _, _, _, _, _, _, _, rfl⟩, by rw [dLoop_eq]; exact f3⟩
theorem dt1_5 (p : Value) (n L : Nat) (x3 x4 x5 x7 x8 x9 x10 x11 x12 x13 x14 x15 x16 x17 x18 : Value) (s : St) :
    opsF EB noCall false dTest [0, 1, 2, 3, 4] ⟨frD p n L 5 x3 x4 x5 x7 x8 x9 x10 x11 x12 x13 x14 x15 x16 x17 x18, 42, []⟩ s = some (.normal, ⟨frD p n L 5 x3 x4 x5 x7 (.int .u64 (.ofNat n)) (.int .i64 (.ofNat 5)) (.int .i64 (.ofNat 20)) (.int .u64 (.ofNat (n / 2 ^ (4 * 5)))) (.bool (Nat.blt 0 (n / 2 ^ (4 * 5)))) x13 x14 x15 x16 x17 x18, 42, []⟩, s) := by kernel_rfl
theorem dt2_5 (p : Value) (n L : Nat) (x3 x4 x5 x7 x8 x9 x10 x11 x13 x14 x15 x16 x17 x18 : Value) (s : St) :
    opsF EB noCall false dTest [5, 6, 7, 8] ⟨frD p n L 5 x3 x4 x5 x7 x8 x9 x10 x11 (.bool true) x13 x14 x15 x16 x17 x18, 42, []⟩ s = some (.normal, ⟨frD p n L 5 x3 x4 x5 x7 x8 x9 x10 x11 (.bool true) (.bool true) (.int .i64 (.ofNat 5)) (.bool true) (.bool true) x17 x18, 42, []⟩, s) := by kernel_rfl
theorem dt3_5 (p : Value) (n L : Nat) (x3 x4 x5 x7 x8 x9 x10 x11 x13 x14 x15 x16 x17 x18 : Value) (s : St) :
    opsF EB noCall false dTest [5, 6, 7, 8] ⟨frD p n L 5 x3 x4 x5 x7 x8 x9 x10 x11 (.bool false) x13 x14 x15 x16 x17 x18, 42, []⟩ s = some (.normal, ⟨frD p n L 5 x3 x4 x5 x7 x8 x9 x10 x11 (.bool false) (.bool false) (undef) (undef) (.bool false) x17 x18, 42, []⟩, s) := by kernel_rfl
theorem dm_5 (p : Value) (n L : Nat) (x3 x4 x5 x7 x8 x9 x10 x11 x12 x13 x14 x15 x16 x17 x18 : Value) (s : St) :
    Eng.exec EB 20 ⟨19, none⟩ dMore ⟨frD p n L 5 x3 x4 x5 x7 x8 x9 x10 x11 x12 x13 x14 x15 x16 x17 x18, 42, []⟩ s = some (.normal, ⟨frD p n L 6 x3 x4 x5 x7 x8 x9 x10 x11 x12 x13 x14 x15 x16 (.int .i64 (.ofNat 5)) (.int .i64 (.ofNat 6)), 42, []⟩, s) := by kernel_rfl
theorem stepD_5 {p : Value} {n L : Nat} {t : F} (s : St) (h : AtD p n L 5 t) (hb : Nat.blt 0 (n / 2 ^ (4 * 5)) = true) : ∃ t', AtD p n L 6 t' ∧ FromD [.code dLoop] t s .normal t' := by
  obtain ⟨x3, x4, x5, x7, x8, x9, x10, x11, x12, x13, x14, x15, x16, x17, x18, rfl⟩ := h
  have e1 := dt1_5 p n L x3 x4 x5 x7 x8 x9 x10 x11 x12 x13 x14 x15 x16 x17 x18 s
  rw [hb] at e1
  have f1 := FromD.region ((opsF_app e1).trans (dt2_5 _ _ _ _ _ _ _ _ _ _ _ _ _ _ _ _ _ _))
  have f2 := f1.seq (From.cond (a := .skip) (b := .exit 0) (c := .tmp 16) (t := true) rfl (From.now fun _ _ _ _ _ _ _ _ => st_skip))
  have f3 := f2.seq (FromD.exec (dm_5 _ _ _ _ _ _ _ _ _ _ _ _ _ _ _ _ _ _ _))
  exact ⟨_, ⟨_, _, _, _, _, _, _, _, _, _, _, _, _, _, _, rfl⟩, by rw [dLoop_eq]; exact f3⟩
theorem exitD_5 {p : Value} {n L : Nat} {t : F} (s : St) (h : AtD p n L 5 t) (hb : Nat.blt 0 (n / 2 ^ (4 * 5)) = false) : ∃ t', AtD p n L 5 t' ∧ FromD [.code dLoop] t s (.jump (.exit 0)) t' := by
  obtain ⟨x3, x4, x5, x7, x8, x9, x10, x11, x12, x13, x14, x15, x16, x17, x18, rfl⟩ := h
  have e1 := dt1_5 p n L x3 x4 x5 x7 x8 x9 x10 x11 x12 x13 x14 x15 x16 x17 x18 s
  rw [hb] at e1
  have f1 := FromD.region ((opsF_app e1).trans (dt3_5 _ _ _ _ _ _ _ _ _ _ _ _ _ _ _ _ _ _))
  have f2 := f1.seq (From.cond (a := .skip) (b := .exit 0) (c := .tmp 16) (t := false) rfl (From.jumps (c := .exit 0) fun k => by simp))
  have f3 := (f2.leaves (x := .code dMore) (by intro h; cases h) (fun _ _ _ => rfl) (fun _ _ _ => rfl)).steps (a := [.code (.seq (.seq (.region 1 dTest false) (.cond (.tmp 16) .skip (.exit 0))) dMore)]) fun _ _ _ _ _ _ _ _ => .one st_seq
  exact ⟨_, ⟨_, _, _, _, _, _, _, _, _, _, _, _, _, _, _, rfl⟩, by rw [dLoop_eq]; exact f3⟩
theorem dt1_6 (p : Value) (n L : Nat) (x3 x4 x5 x7 x8 x9 x10 x11 x12 x13 x14 x15 x16 x17 x18 : Value) (s : St) :
    opsF EB noCall false dTest [0, 1, 2, 3, 4] ⟨frD p n L 6 x3 x4 x5 x7 x8 x9 x10 x11 x12 x13 x14 x15 x16 x17 x18, 42, []⟩ s = some (.normal, ⟨frD p n L 6 x3 x4 x5 x7 (.int .u64 (.ofNat n)) (.int .i64 (.ofNat 6)) (.int .i64 (.ofNat 24)) (.int .u64 (.ofNat (n / 2 ^ (4 * 6)))) (.bool (Nat.blt 0 (n / 2 ^ (4 * 6)))) x13 x14 x15 x16 x17 x18, 42, []⟩, s) := by kernel_rfl
theorem dt2_6 (p : Value) (n L : Nat) (x3 x4 x5 x7 x8 x9 x10 x11 x13 x14 x15 x16 x17 x18 : Value) (s : St) :
    opsF EB noCall false dTest [5, 6, 7, 8] ⟨frD p n L 6 x3 x4 x5 x7 x8 x9 x10 x11 (.bool true) x13 x14 x15 x16 x17 x18, 42, []⟩ s = some (.normal, ⟨frD p n L 6 x3 x4 x5 x7 x8 x9 x10 x11 (.bool true) (.bool true) (.int .i64 (.ofNat 6)) (.bool true) (.bool true) x17 x18, 42, []⟩, s) := by kernel_rfl
theorem dt3_6 (p : Value) (n L : Nat) (x3 x4 x5 x7 x8 x9 x10 x11 x13 x14 x15 x16 x17 x18 : Value) (s : St) :
    opsF EB noCall false dTest [5, 6, 7, 8] ⟨frD p n L 6 x3 x4 x5 x7 x8 x9 x10 x11 (.bool false) x13 x14 x15 x16 x17 x18, 42, []⟩ s = some (.normal, ⟨frD p n L 6 x3 x4 x5 x7 x8 x9 x10 x11 (.bool false) (.bool false) (undef) (undef) (.bool false) x17 x18, 42, []⟩, s) := by kernel_rfl
theorem dm_6 (p : Value) (n L : Nat) (x3 x4 x5 x7 x8 x9 x10 x11 x12 x13 x14 x15 x16 x17 x18 : Value) (s : St) :
    Eng.exec EB 20 ⟨19, none⟩ dMore ⟨frD p n L 6 x3 x4 x5 x7 x8 x9 x10 x11 x12 x13 x14 x15 x16 x17 x18, 42, []⟩ s = some (.normal, ⟨frD p n L 7 x3 x4 x5 x7 x8 x9 x10 x11 x12 x13 x14 x15 x16 (.int .i64 (.ofNat 6)) (.int .i64 (.ofNat 7)), 42, []⟩, s) := by kernel_rfl
theorem stepD_6 {p : Value} {n L : Nat} {t : F} (s : St) (h : AtD p n L 6 t) (hb : Nat.blt 0 (n / 2 ^ (4 * 6)) = true) : ∃ t', AtD p n L 7 t' ∧ FromD [.code dLoop] t s .normal t' := by
  obtain ⟨x3, x4, x5, x7, x8, x9, x10, x11, x12, x13, x14, x15, x16, x17, x18, rfl⟩ := h
  have e1 := dt1_6 p n L x3 x4 x5 x7 x8 x9 x10 x11 x12 x13 x14 x15 x16 x17 x18 s
  rw [hb] at e1
  have f1 := FromD.region ((opsF_app e1).trans (dt2_6 _ _ _ _ _ _ _ _ _ _ _ _ _ _ _ _ _ _))
  have f2 := f1.seq (From.cond (a := .skip) (b := .exit 0) (c := .tmp 16) (t := true) rfl (From.now fun _ _ _ _ _ _ _ _ => st_skip))
  have f3 := f2.seq (FromD.exec (dm_6 _ _ _ _ _ _ _ _ _ _ _ _ _ _ _ _ _ _ _))
  exact ⟨_, ⟨_, _, _, _, _, _, _, _, _, _, _, _, _, _, _, rfl⟩, by rw [dLoop_eq]; exact f3⟩
theorem exitD_6 {p : Value} {n L : Nat} {t : F} (s : St) (h : AtD p n L 6 t) (hb : Nat.blt 0 (n / 2 ^ (4 * 6)) = false) : ∃ t', AtD p n L 6 t' ∧ FromD [.code dLoop] t s (.jump (.exit 0)) t' := by
  obtain ⟨x3, x4, x5, x7, x8, x9, x10, x11, x12, x13, x14, x15, x16, x17, x18, rfl⟩ := h
  have e1 := dt1_6 p n L x3 x4 x5 x7 x8 x9 x10 x11 x12 x13 x14 x15 x16 x17 x18 s
  rw [hb] at e1
  have f1 := FromD.region ((opsF_app e1).trans (dt3_6 _ _ _ _ _ _ _ _ _ _ _ _ _ _ _ _ _ _))
  have f2 := f1.seq (From.cond (a := .skip) (b := .exit 0) (c := .tmp 16) (t := false) rfl (From.jumps (c := .exit 0) fun k => by simp))
  have f3 := (f2.leaves (x := .code dMore) (by intro h; cases h) (fun _ _ _ => rfl) (fun _ _ _ => rfl)).steps (a := [.code (.seq (.seq (.region 1 dTest false) (.cond (.tmp 16) .skip (.exit 0))) dMore)]) fun _ _ _ _ _ _ _ _ => .one st_seq
  exact ⟨_, ⟨_, _, _, _, _, _, _, _, _, _, _, _, _, _, _, rfl⟩, by rw [dLoop_eq]; exact f3⟩
theorem dt1_7 (p : Value) (n L : Nat) (x3 x4 x5 x7 x8 x9 x10 x11 x12 x13 x14 x15 x16 x17 x18 : Value) (s : St) :
    opsF EB noCall false dTest [0, 1, 2, 3, 4] ⟨frD p n L 7 x3 x4 x5 x7 x8 x9 x10 x11 x12 x13 x14 x15 x16 x17 x18, 42, []⟩ s = some (.normal, ⟨frD p n L 7 x3 x4 x5 x7 (.int .u64 (.ofNat n)) (.int .i64 (.ofNat 7)) (.int .i64 (.ofNat 28)) (.int .u64 (.ofNat (n / 2 ^ (4 * 7)))) (.bool (Nat.blt 0 (n / 2 ^ (4 * 7)))) x13 x14 x15 x16 x17 x18, 42, []⟩, s) := by kernel_rfl
theorem dt2_7 (p : Value) (n L : Nat) (x3 x4 x5 x7 x8 x9 x10 x11 x13 x14 x15 x16 x17 x18 : Value) (s : St) :
    opsF EB noCall false dTest [5, 6, 7, 8] ⟨frD p n L 7 x3 x4 x5 x7 x8 x9 x10 x11 (.bool true) x13 x14 x15 x16 x17 x18, 42, []⟩ s = some (.normal, ⟨frD p n L 7 x3 x4 x5 x7 x8 x9 x10 x11 (.bool true) (.bool true) (.int .i64 (.ofNat 7)) (.bool true) (.bool true) x17 x18, 42, []⟩, s) := by kernel_rfl
theorem dt3_7 (p : Value) (n L : Nat) (x3 x4 x5 x7 x8 x9 x10 x11 x13 x14 x15 x16 x17 x18 : Value) (s : St) :
    opsF EB noCall false dTest [5, 6, 7, 8] ⟨frD p n L 7 x3 x4 x5 x7 x8 x9 x10 x11 (.bool false) x13 x14 x15 x16 x17 x18, 42, []⟩ s = some (.normal, ⟨frD p n L 7 x3 x4 x5 x7 x8 x9 x10 x11 (.bool false) (.bool false) (undef) (undef) (.bool false) x17 x18, 42, []⟩, s) := by kernel_rfl
theorem dm_7 (p : Value) (n L : Nat) (x3 x4 x5 x7 x8 x9 x10 x11 x12 x13 x14 x15 x16 x17 x18 : Value) (s : St) :
    Eng.exec EB 20 ⟨19, none⟩ dMore ⟨frD p n L 7 x3 x4 x5 x7 x8 x9 x10 x11 x12 x13 x14 x15 x16 x17 x18, 42, []⟩ s = some (.normal, ⟨frD p n L 8 x3 x4 x5 x7 x8 x9 x10 x11 x12 x13 x14 x15 x16 (.int .i64 (.ofNat 7)) (.int .i64 (.ofNat 8)), 42, []⟩, s) := by kernel_rfl
theorem stepD_7 {p : Value} {n L : Nat} {t : F} (s : St) (h : AtD p n L 7 t) (hb : Nat.blt 0 (n / 2 ^ (4 * 7)) = true) : ∃ t', AtD p n L 8 t' ∧ FromD [.code dLoop] t s .normal t' := by
  obtain ⟨x3, x4, x5, x7, x8, x9, x10, x11, x12, x13, x14, x15, x16, x17, x18, rfl⟩ := h
  have e1 := dt1_7 p n L x3 x4 x5 x7 x8 x9 x10 x11 x12 x13 x14 x15 x16 x17 x18 s
  rw [hb] at e1
  have f1 := FromD.region ((opsF_app e1).trans (dt2_7 _ _ _ _ _ _ _ _ _ _ _ _ _ _ _ _ _ _))
  have f2 := f1.seq (From.cond (a := .skip) (b := .exit 0) (c := .tmp 16) (t := true) rfl (From.now fun _ _ _ _ _ _ _ _ => st_skip))
  have f3 := f2.seq (FromD.exec (dm_7 _ _ _ _ _ _ _ _ _ _ _ _ _ _ _ _ _ _ _))
  exact ⟨_, ⟨_, _, _, _, _, _, _, _, _, _, _, _, _, _, _, rfl⟩, by rw [dLoop_eq]; exact f3⟩
theorem exitD_7 {p : Value} {n L : Nat} {t : F} (s : St) (h : AtD p n L 7 t) (hb : Nat.blt 0 (n / 2 ^ (4 * 7)) = false) : ∃ t', AtD p n L 7 t' ∧ FromD [.code dLoop] t s (.jump (.exit 0)) t' := by
  obtain ⟨x3, x4, x5, x7, x8, x9, x10, x11, x12, x13, x14, x15, x16, x17, x18, rfl⟩ := h
  have e1 := dt1_7 p n L x3 x4 x5 x7 x8 x9 x10 x11 x12 x13 x14 x15 x16 x17 x18 s
  rw [hb] at e1
  have f1 := FromD.region ((opsF_app e1).trans (dt3_7 _ _ _ _ _ _ _ _ _ _ _ _ _ _ _ _ _ _))
  have f2 := f1.seq (From.cond (a := .skip) (b := .exit 0) (c := .tmp 16) (t := false) rfl (From.jumps (c := .exit 0) fun k => by simp))
  have f3 := (f2.leaves (x := .code dMore) (by intro h; cases h) (fun _ _ _ => rfl) (fun _ _ _ => rfl)).steps (a := [.code (.seq (.seq (.region 1 dTest false) (.cond (.tmp 16) .skip (.exit 0))) dMore)]) fun _ _ _ _ _ _ _ _ => .one st_seq
  exact ⟨_, ⟨_, _, _, _, _, _, _, _, _, _, _, _, _, _, _, rfl⟩, by rw [dLoop_eq]; exact f3⟩
theorem dt1_8 (p : Value) (n L : Nat) (x3 x4 x5 x7 x8 x9 x10 x11 x12 x13 x14 x15 x16 x17 x18 : Value) (s : St) :
    opsF EB noCall false dTest [0, 1, 2, 3, 4] ⟨frD p n L 8 x3 x4 x5 x7 x8 x9 x10 x11 x12 x13 x14 x15 x16 x17 x18, 42, []⟩ s = some (.normal, ⟨frD p n L 8 x3 x4 x5 x7 (.int .u64 (.ofNat n)) (.int .i64 (.ofNat 8)) (.int .i64 (.ofNat 32)) (.int .u64 (.ofNat (n / 2 ^ (4 * 8)))) (.bool (Nat.blt 0 (n / 2 ^ (4 * 8)))) x13 x14 x15 x16 x17 x18, 42, []⟩, s) := by kernel_rfl
theorem dt2_8 (p : Value) (n L : Nat) (x3 x4 x5 x7 x8 x9 x10 x11 x13 x14 x15 x16 x17 x18 : Value) (s : St) :
    opsF EB noCall false dTest [5, 6, 7, 8] ⟨frD p n L 8 x3 x4 x5 x7 x8 x9 x10 x11 (.bool true) x13 x14 x15 x16 x17 x18, 42, []⟩ s = some (.normal, ⟨frD p n L 8 x3 x4 x5 x7 x8 x9 x10 x11 (.bool true) (.bool true) (.int .i64 (.ofNat 8)) (.bool true) (.bool true) x17 x18, 42, []⟩, s) := by kernel_rfl
theorem dt3_8 (p : Value) (n L : Nat) (x3 x4 x5 x7 x8 x9 x10 x11 x13 x14 x15 x16 x17 x18 : Value) (s : St) :
    opsF EB noCall false dTest [5, 6, 7, 8] ⟨frD p n L 8 x3 x4 x5 x7 x8 x9 x10 x11 (.bool false) x13 x14 x15 x16 x17 x18, 42, []⟩ s = some (.normal, ⟨frD p n L 8 x3 x4 x5 x7 x8 x9 x10 x11 (.bool false) (.bool false) (undef) (undef) (.bool false) x17 x18, 42, []⟩, s) := by kernel_rfl
theorem dm_8 (p : Value) (n L : Nat) (x3 x4 x5 x7 x8 x9 x10 x11 x12 x13 x14 x15 x16 x17 x18 : Value) (s : St) :
    Eng.exec EB 20 ⟨19, none⟩ dMore ⟨frD p n L 8 x3 x4 x5 x7 x8 x9 x10 x11 x12 x13 x14 x15 x16 x17 x18, 42, []⟩ s = some (.normal, ⟨frD p n L 9 x3 x4 x5 x7 x8 x9 x10 x11 x12 x13 x14 x15 x16 (.int .i64 (.ofNat 8)) (.int .i64 (.ofNat 9)), 42, []⟩, s) := by kernel_rfl
theorem stepD_8 {p : Value} {n L : Nat} {t : F} (s : St) (h : AtD p n L 8 t) (hb : Nat.blt 0 (n / 2 ^ (4 * 8)) = true) : ∃ t', AtD p n L 9 t' ∧ FromD [.code dLoop] t s .normal t' := by
  obtain ⟨x3, x4, x5, x7, x8, x9, x10, x11, x12, x13, x14, x15, x16, x17, x18, rfl⟩ := h
  have e1 := dt1_8 p n L x3 x4 x5 x7 x8 x9 x10 x11 x12 x13 x14 x15 x16 x17 x18 s
  rw [hb] at e1
  have f1 := FromD.region ((opsF_app e1).trans (dt2_8 _ _ _ _ _ _ _ _ _ _ _ _ _ _ _ _ _ _))
  have f2 := f1.seq (From.cond (a := .skip) (b := .exit 0) (c := .tmp 16) (t := true) rfl (From.now fun _ _ _ _ _ _ _ _ => st_skip))
  have f3 := f2.seq (FromD.exec (dm_8 _ _ _ _ _ _ _ _ _ _ _ _ _ _ _ _ _ _ _))
  exact ⟨_, ⟨_, _, _, _, _, _, _, _, _, _, _, _, _, _, _, rfl⟩, by rw [dLoop_eq]; exact f3⟩
theorem exitD_8 {p : Value} {n L : Nat} {t : F} (s : St) (h : AtD p n L 8 t) (hb : Nat.blt 0 (n / 2 ^ (4 * 8)) = false) : ∃ t', AtD p n L 8 t' ∧ FromD [.code dLoop] t s (.jump (.exit 0)) t' := by
  obtain ⟨x3, x4, x5, x7, x8, x9, x10, x11, x12, x13, x14, x15, x16, x17, x18, rfl⟩ := h
  have e1 := dt1_8 p n L x3 x4 x5 x7 x8 x9 x10 x11 x12 x13 x14 x15 x16 x17 x18 s
  rw [hb] at e1
  have f1 := FromD.region ((opsF_app e1).trans (dt3_8 _ _ _ _ _ _ _ _ _ _ _ _ _ _ _ _ _ _))
  have f2 := f1.seq (From.cond (a := .skip) (b := .exit 0) (c := .tmp 16) (t := false) rfl (From.jumps (c := .exit 0) fun k => by simp))
  have f3 := (f2.leaves (x := .code dMore) (by intro h; cases h) (fun _ _ _ => rfl) (fun _ _ _ => rfl)).steps (a := [.code (.seq (.seq (.region 1 dTest false) (.cond (.tmp 16) .skip (.exit 0))) dMore)]) fun _ _ _ _ _ _ _ _ => .one st_seq
  exact ⟨_, ⟨_, _, _, _, _, _, _, _, _, _, _, _, _, _, _, rfl⟩, by rw [dLoop_eq]; exact f3⟩
theorem dt1_9 (p : Value) (n L : Nat) (x3 x4 x5 x7 x8 x9 x10 x11 x12 x13 x14 x15 x16 x17 x18 : Value) (s : St) :
    opsF EB noCall false dTest [0, 1, 2, 3, 4] ⟨frD p n L 9 x3 x4 x5 x7 x8 x9 x10 x11 x12 x13 x14 x15 x16 x17 x18, 42, []⟩ s = some (.normal, ⟨frD p n L 9 x3 x4 x5 x7 (.int .u64 (.ofNat n)) (.int .i64 (.ofNat 9)) (.int .i64 (.ofNat 36)) (.int .u64 (.ofNat (n / 2 ^ (4 * 9)))) (.bool (Nat.blt 0 (n / 2 ^ (4 * 9)))) x13 x14 x15 x16 x17 x18, 42, []⟩, s) := by kernel_rfl
theorem dt2_9 (p : Value) (n L : Nat) (x3 x4 x5 x7 x8 x9 x10 x11 x13 x14 x15 x16 x17 x18 : Value) (s : St) :
    opsF EB noCall false dTest [5, 6, 7, 8] ⟨frD p n L 9 x3 x4 x5 x7 x8 x9 x10 x11 (.bool true) x13 x14 x15 x16 x17 x18, 42, []⟩ s = some (.normal, ⟨frD p n L 9 x3 x4 x5 x7 x8 x9 x10 x11 (.bool true) (.bool true) (.int .i64 (.ofNat 9)) (.bool true) (.bool true) x17 x18, 42, []⟩, s) := by kernel_rfl
theorem dt3_9 (p : Value) (n L : Nat) (x3 x4 x5 x7 x8 x9 x10 x11 x13 x14 x15 x16 x17 x18 : Value) (s : St) :
    opsF EB noCall false dTest [5, 6, 7, 8] ⟨frD p n L 9 x3 x4 x5 x7 x8 x9 x10 x11 (.bool false) x13 x14 x15 x16 x17 x18, 42, []⟩ s = some (.normal, ⟨frD p n L 9 x3 x4 x5 x7 x8 x9 x10 x11 (.bool false) (.bool false) (undef) (undef) (.bool false) x17 x18, 42, []⟩, s) := by kernel_rfl
theorem dm_9 (p : Value) (n L : Nat) (x3 x4 x5 x7 x8 x9 x10 x11 x12 x13 x14 x15 x16 x17 x18 : Value) (s : St) :
    Eng.exec EB 20 ⟨19, none⟩ dMore ⟨frD p n L 9 x3 x4 x5 x7 x8 x9 x10 x11 x12 x13 x14 x15 x16 x17 x18, 42, []⟩ s = some (.normal, ⟨frD p n L 10 x3 x4 x5 x7 x8 x9 x10 x11 x12 x13 x14 x15 x16 (.int .i64 (.ofNat 9)) (.int .i64 (.ofNat 10)), 42, []⟩, s) := by kernel_rfl
theorem stepD_9 {p : Value} {n L : Nat} {t : F} (s : St) (h : AtD p n L 9 t) (hb : Nat.blt 0 (n / 2 ^ (4 * 9)) = true) : ∃ t', AtD p n L 10 t' ∧ FromD [.code dLoop] t s .normal t' := by
  obtain ⟨x3, x4, x5, x7, x8, x9, x10, x11, x12, x13, x14, x15, x16, x17, x18, rfl⟩ := h
  have e1 := dt1_9 p n L x3 x4 x5 x7 x8 x9 x10 x11 x12 x13 x14 x15 x16 x17 x18 s
  rw [hb] at e1
  have f1 := FromD.region ((opsF_app e1).trans (dt2_9 _ _ _ _ _ _ _ _ _ _ _ _ _ _ _ _ _ _))
  have f2 := f1.seq (From.cond (a := .skip) (b := .exit 0) (c := .tmp 16) (t := true) rfl (From.now fun _ _ _ _ _ _ _ _ => st_skip))
  have f3 := f2.seq (FromD.exec (dm_9 _ _ _ _ _ _ _ _ _ _ _ _ _ _ _ _ _ _ _))
  exact ⟨_, ⟨_, _, _, _, _, _, _, _, _, _, _, _, _, _, _, rfl⟩, by rw [dLoop_eq]; exact f3⟩
theorem exitD_9 {p : Value} {n L : Nat} {t : F} (s : St) (h : AtD p n L 9 t) (hb : Nat.blt 0 (n / 2 ^ (4 * 9)) = false) : ∃ t', AtD p n L 9 t' ∧ FromD [.code dLoop] t s (.jump (.exit 0)) t' := by
  obtain ⟨x3, x4, x5, x7, x8, x9, x10, x11, x12, x13, x14, x15, x16, x17, x18, rfl⟩ := h
  have e1 := dt1_9 p n L x3 x4 x5 x7 x8 x9 x10 x11 x12 x13 x14 x15 x16 x17 x18 s
  rw [hb] at e1
  have f1 := FromD.region ((opsF_app e1).trans (dt3_9 _ _ _ _ _ _ _ _ _ _ _ _ _ _ _ _ _ _))
  have f2 := f1.seq (From.cond (a := .skip) (b := .exit 0) (c := .tmp 16) (t := false) rfl (From.jumps (c := .exit 0) fun k => by simp))
  have f3 := (f2.leaves (x := .code dMore) (by intro h; cases h) (fun _ _ _ => rfl) (fun _ _ _ => rfl)).steps (a := [.code (.seq (.seq (.region 1 dTest false) (.cond (.tmp 16) .skip (.exit 0))) dMore)]) fun _ _ _ _ _ _ _ _ => .one st_seq
  exact ⟨_, ⟨_, _, _, _, _, _, _, _, _, _, _, _, _, _, _, rfl⟩, by rw [dLoop_eq]; exact f3⟩
theorem dt1_10 (p : Value) (n L : Nat) (x3 x4 x5 x7 x8 x9 x10 x11 x12 x13 x14 x15 x16 x17 x18 : Value) (s : St) :
    opsF EB noCall false dTest [0, 1, 2, 3, 4] ⟨frD p n L 10 x3 x4 x5 x7 x8 x9 x10 x11 x12 x13 x14 x15 x16 x17 x18, 42, []⟩ s = some (.normal, ⟨frD p n L 10 x3 x4 x5 x7 (.int .u64 (.ofNat n)) (.int .i64 (.ofNat 10)) (.int .i64 (.ofNat 40)) (.int .u64 (.ofNat (n / 2 ^ (4 * 10)))) (.bool (Nat.blt 0 (n / 2 ^ (4 * 10)))) x13 x14 x15 x16 x17 x18, 42, []⟩, s) := by kernel_rfl
theorem dt2_10 (p : Value) (n L : Nat) (x3 x4 x5 x7 x8 x9 x10 x11 x13 x14 x15 x16 x17 x18 : Value) (s : St) :
    opsF EB noCall false dTest [5, 6, 7, 8] ⟨frD p n L 10 x3 x4 x5 x7 x8 x9 x10 x11 (.bool true) x13 x14 x15 x16 x17 x18, 42, []⟩ s = some (.normal, ⟨frD p n L 10 x3 x4 x5 x7 x8 x9 x10 x11 (.bool true) (.bool true) (.int .i64 (.ofNat 10)) (.bool true) (.bool true) x17 x18, 42, []⟩, s) := by kernel_rfl
theorem dt3_10 (p : Value) (n L : Nat) (x3 x4 x5 x7 x8 x9 x10 x11 x13 x14 x15 x16 x17 x18 : Value) (s : St) :
    opsF EB noCall false dTest [5, 6, 7, 8] ⟨frD p n L 10 x3 x4 x5 x7 x8 x9 x10 x11 (.bool false) x13 x14 x15 x16 x17 x18, 42, []⟩ s = some (.normal, ⟨frD p n L 10 x3 x4 x5 x7 x8 x9 x10 x11 (.bool false) (.bool false) (undef) (undef) (.bool false) x17 x18, 42, []⟩, s) := by kernel_rfl
theorem dm_10 (p : Value) (n L : Nat) (x3 x4 x5 x7 x8 x9 x10 x11 x12 x13 x14 x15 x16 x17 x18 : Value) (s : St) :
    Eng.exec EB 20 ⟨19, none⟩ dMore ⟨frD p n L 10 x3 x4 x5 x7 x8 x9 x10 x11 x12 x13 x14 x15 x16 x17 x18, 42, []⟩ s = some (.normal, ⟨frD p n L 11 x3 x4 x5 x7 x8 x9 x10 x11 x12 x13 x14 x15 x16 (.int .i64 (.ofNat 10)) (.int .i64 (.ofNat 11)), 42, []⟩, s) := by kernel_rfl
theorem stepD_10 {p : Value} {n L : Nat} {t : F} (s : St) (h : AtD p n L 10 t) (hb : Nat.blt 0 (n / 2 ^ (4 * 10)) = true) : ∃ t', AtD p n L 11 t' ∧ FromD [.code dLoop] t s .normal t' := by
  obtain ⟨x3, x4, x5, x7, x8, x9, x10, x11, x12, x13, x14, x15, x16, x17, x18, rfl⟩ := h
  have e1 := dt1_10 p n L x3 x4 x5 x7 x8 x9 x10 x11 x12 x13 x14 x15 x16 x17 x18 s
  rw [hb] at e1
  have f1 := FromD.region ((opsF_app e1).trans (dt2_10 _ _ _ _ _ _ _ _ _ _ _ _ _ _ _ _ _ _))
  have f2 := f1.seq (From.cond (a := .skip) (b := .exit 0) (c := .tmp 16) (t := true) rfl (From.now fun _ _ _ _ _ _ _ _ => st_skip))
  have f3 := f2.seq (FromD.exec (dm_10 _ _ _ _ _ _ _ _ _ _ _ _ _ _ _ _ _ _ _))
  exact ⟨_, ⟨_, _, _, _, _, _, _, _, _, _, _, _, _, _, _, rfl⟩, by rw [dLoop_eq]; exact f3⟩
theorem exitD_10 {p : Value} {n L : Nat} {t : F} (s : St) (h : AtD p n L 10 t) (hb : Nat.blt 0 (n / 2 ^ (4 * 10)) = false) : ∃ t', AtD p n L 10 t' ∧ FromD [.code dLoop] t s (.jump (.exit 0)) t' := by
  obtain ⟨x3, x4, x5, x7, x8, x9, x10, x11, x12, x13, x14, x15, x16, x17, x18, rfl⟩ := h
  have e1 := dt1_10 p n L x3 x4 x5 x7 x8 x9 x10 x11 x12 x13 x14 x15 x16 x17 x18 s
  rw [hb] at e1
  have f1 := FromD.region ((opsF_app e1).trans (dt3_10 _ _ _ _ _ _ _ _ _ _ _ _ _ _ _ _ _ _))
  have f2 := f1.seq (From.cond (a := .skip) (b := .exit 0) (c := .tmp 16) (t := false) rfl (From.jumps (c := .exit 0) fun k => by simp))
  have f3 := (f2.leaves (x := .code dMore) (by intro h; cases h) (fun _ _ _ => rfl) (fun _ _ _ => rfl)).steps (a := [.code (.seq (.seq (.region 1 dTest false) (.cond (.tmp 16) .skip (.exit 0))) dMore)]) fun _ _ _ _ _ _ _ _ => .one st_seq
  exact ⟨_, ⟨_, _, _, _, _, _, _, _, _, _, _, _, _, _, _, rfl⟩, by rw [dLoop_eq]; exact f3⟩
theorem dt1_11 (p : Value) (n L : Nat) (x3 x4 x5 x7 x8 x9 x10 x11 x12 x13 x14 x15 x16 x17 x18 : Value) (s : St) :
    opsF EB noCall false dTest [0, 1, 2, 3, 4] ⟨frD p n L 11 x3 x4 x5 x7 x8 x9 x10 x11 x12 x13 x14 x15 x16 x17 x18, 42, []⟩ s = some (.normal, ⟨frD p n L 11 x3 x4 x5 x7 (.int .u64 (.ofNat n)) (.int .i64 (.ofNat 11)) (.int .i64 (.ofNat 44)) (.int .u64 (.ofNat (n / 2 ^ (4 * 11)))) (.bool (Nat.blt 0 (n / 2 ^ (4 * 11)))) x13 x14 x15 x16 x17 x18, 42, []⟩, s) := by kernel_rfl
theorem dt2_11 (p : Value) (n L : Nat) (x3 x4 x5 x7 x8 x9 x10 x11 x13 x14 x15 x16 x17 x18 : Value) (s : St) :
    opsF EB noCall false dTest [5, 6, 7, 8] ⟨frD p n L 11 x3 x4 x5 x7 x8 x9 x10 x11 (.bool true) x13 x14 x15 x16 x17 x18, 42, []⟩ s = some (.normal, ⟨frD p n L 11 x3 x4 x5 x7 x8 x9 x10 x11 (.bool true) (.bool true) (.int .i64 (.ofNat 11)) (.bool true) (.bool true) x17 x18, 42, []⟩, s) := by kernel_rfl
theorem dt3_11 (p : Value) (n L : Nat) (x3 x4 x5 x7 x8 x9 x10 x11 x13 x14 x15 x16 x17 x18 : Value) (s : St) :
    opsF EB noCall false dTest [5, 6, 7, 8] ⟨frD p n L 11 x3 x4 x5 x7 x8 x9 x10 x11 (.bool false) x13 x14 x15 x16 x17 x18, 42, []⟩ s = some (.normal, ⟨frD p n L 11 x3 x4 x5 x7 x8 x9 x10 x11 (.bool false) (.bool false) (undef) (undef) (.bool false) x17 x18, 42, []⟩, s) := by kernel_rfl
theorem dm_11 (p : Value) (n L : Nat) (x3 x4 x5 x7 x8 x9 x10 x11 x12 x13 x14 x15 x16 x17 x18 : Value) (s : St) :
    Eng.exec EB 20 ⟨19, none⟩ dMore ⟨frD p n L 11 x3 x4 x5 x7 x8 x9 x10 x11 x12 x13 x14 x15 x16 x17 x18, 42, []⟩ s = some (.normal, ⟨frD p n L 12 x3 x4 x5 x7 x8 x9 x10 x11 x12 x13 x14 x15 x16 (.int .i64 (.ofNat 11)) (.int .i64 (.ofNat 12)), 42, []⟩, s) := by kernel_rfl
theorem stepD_11 {p : Value} {n L : Nat} {t : F} (s : St) (h : AtD p n L 11 t) (hb : Nat.blt 0 (n / 2 ^ (4 * 11)) = true) : ∃ t', AtD p n L 12 t' ∧ FromD [.code dLoop] t s .normal t' := by
  obtain ⟨x3, x4, x5, x7, x8, x9, x10, x11, x12, x13, x14, x15, x16, x17, x18, rfl⟩ := h
  have e1 := dt1_11 p n L x3 x4 x5 x7 x8 x9 x10 x11 x12 x13 x14 x15 x16 x17 x18 s
  rw [hb] at e1
  have f1 := FromD.region ((opsF_app e1).trans (dt2_11 _ _ _ _ _ _ _ _ _ _ _ _ _ _ _ _ _ _))
  have f2 := f1.seq (From.cond (a := .skip) (b := .exit 0) (c := .tmp 16) (t := true) rfl (From.now fun _ _ _ _ _ _ _ _ => st_skip))
  have f3 := f2.seq (FromD.exec (dm_11 _ _ _ _ _ _ _ _ _ _ _ _ _ _ _ _ _ _ _))
  exact ⟨_, ⟨_, _, _, _, _, _, _, _, _, _, _, _, _, _, _, rfl⟩, by rw [dLoop_eq]; exact f3⟩
theorem exitD_11 {p : Value} {n L : Nat} {t : F} (s : St) (h : AtD p n L 11 t) (hb : Nat.blt 0 (n / 2 ^ (4 * 11)) = false) : ∃ t', AtD p n L 11 t' ∧ FromD [.code dLoop] t s (.jump (.exit 0)) t' := by
  obtain ⟨x3, x4, x5, x7, x8, x9, x10, x11, x12, x13, x14, x15, x16, x17, x18, rfl⟩ := h
  have e1 := dt1_11 p n L x3 x4 x5 x7 x8 x9 x10 x11 x12 x13 x14 x15 x16 x17 x18 s
  rw [hb] at e1
  have f1 := FromD.region ((opsF_app e1).trans (dt3_11 _ _ _ _ _ _ _ _ _ _ _ _ _ _ _ _ _ _))
  have f2 := f1.seq (From.cond (a := .skip) (b := .exit 0) (c := .tmp 16) (t := false) rfl (From.jumps (c := .exit 0) fun k => by simp))
  have f3 := (f2.leaves (x := .code dMore) (by intro h; cases h) (fun _ _ _ => rfl) (fun _ _ _ => rfl)).steps (a := [.code (.seq (.seq (.region 1 dTest false) (.cond (.tmp 16) .skip (.exit 0))) dMore)]) fun _ _ _ _ _ _ _ _ => .one st_seq
  exact ⟨_, ⟨_, _, _, _, _, _, _, _, _, _, _, _, _, _, _, rfl⟩, by rw [dLoop_eq]; exact f3⟩
/-- From the loop's head on: it ends with many = d. -/
abbrev LoopD (p : Value) (n L d k : Nat) : Prop := ∀ (s : St) (t : F), AtD p n L k t → ∃ t', AtD p n L d t' ∧ FromD [.code dLoop, .inLoop dLoop] t s (.jump (.exit 0)) t'
theorem LoopD.stop {p : Value} {n L d : Nat} (h : ∀ (s : St) (t : F), AtD p n L d t → ∃ t', AtD p n L d t' ∧ FromD [.code dLoop] t s (.jump (.exit 0)) t') : LoopD p n L d d := by
  intro s t ht
  obtain ⟨t', h1, h2⟩ := h s t ht
  exact ⟨t', h1, h2.leaves (by intro h; cases h) (fun _ _ _ => rfl) (fun _ _ _ => rfl)⟩
theorem LoopD.go {p : Value} {n L d k : Nat} (h : ∀ (s : St) (t : F), AtD p n L k t → ∃ t', AtD p n L (k + 1) t' ∧ FromD [.code dLoop] t s .normal t') (hl : LoopD p n L d (k + 1)) : LoopD p n L d k := by
  intro s t ht
  obtain ⟨t', h1, h2⟩ := h s t ht
  obtain ⟨t2, h3, h4⟩ := hl s t' h1
  exact ⟨t2, h3, h2.andThen (h4.steps (a := [.inLoop dLoop]) fun _ _ _ _ _ _ _ _ => .one st_inLoop)⟩
/-- How many digits there are. -/
structure Many (n d : Nat) : Prop where
  lo : ∀ j, 1 ≤ j → j < d → Nat.blt 0 (n / 2 ^ (4 * j)) = true
  hi : Nat.blt 0 (n / 2 ^ (4 * d)) = false
theorem loopD_1 {p : Value} {n L : Nat} (hm : Many n 1) : LoopD p n L 1 1 := (.stop fun s t h => exitD_1 s h hm.hi)
theorem loopD_2 {p : Value} {n L : Nat} (hm : Many n 2) : LoopD p n L 2 1 := (.go (fun s t h => stepD_1 s h (hm.lo 1 (by decide) (by decide))) (.stop fun s t h => exitD_2 s h hm.hi))
theorem loopD_3 {p : Value} {n L : Nat} (hm : Many n 3) : LoopD p n L 3 1 := (.go (fun s t h => stepD_1 s h (hm.lo 1 (by decide) (by decide))) (.go (fun s t h => stepD_2 s h (hm.lo 2 (by decide) (by decide))) (.stop fun s t h => exitD_3 s h hm.hi)))
theorem loopD_4 {p : Value} {n L : Nat} (hm : Many n 4) : LoopD p n L 4 1 := (.go (fun s t h => stepD_1 s h (hm.lo 1 (by decide) (by decide))) (.go (fun s t h => stepD_2 s h (hm.lo 2 (by decide) (by decide))) (.go (fun s t h => stepD_3 s h (hm.lo 3 (by decide) (by decide))) (.stop fun s t h => exitD_4 s h hm.hi))))
theorem loopD_5 {p : Value} {n L : Nat} (hm : Many n 5) : LoopD p n L 5 1 := (.go (fun s t h => stepD_1 s h (hm.lo 1 (by decide) (by decide))) (.go (fun s t h => stepD_2 s h (hm.lo 2 (by decide) (by decide))) (.go (fun s t h => stepD_3 s h (hm.lo 3 (by decide) (by decide))) (.go (fun s t h => stepD_4 s h (hm.lo 4 (by decide) (by decide))) (.stop fun s t h => exitD_5 s h hm.hi)))))
theorem loopD_6 {p : Value} {n L : Nat} (hm : Many n 6) : LoopD p n L 6 1 := (.go (fun s t h => stepD_1 s h (hm.lo 1 (by decide) (by decide))) (.go (fun s t h => stepD_2 s h (hm.lo 2 (by decide) (by decide))) (.go (fun s t h => stepD_3 s h (hm.lo 3 (by decide) (by decide))) (.go (fun s t h => stepD_4 s h (hm.lo 4 (by decide) (by decide))) (.go (fun s t h => stepD_5 s h (hm.lo 5 (by decide) (by decide))) (.stop fun s t h => exitD_6 s h hm.hi))))))
theorem loopD_7 {p : Value} {n L : Nat} (hm : Many n 7) : LoopD p n L 7 1 := (.go (fun s t h => stepD_1 s h (hm.lo 1 (by decide) (by decide))) (.go (fun s t h => stepD_2 s h (hm.lo 2 (by decide) (by decide))) (.go (fun s t h => stepD_3 s h (hm.lo 3 (by decide) (by decide))) (.go (fun s t h => stepD_4 s h (hm.lo 4 (by decide) (by decide))) (.go (fun s t h => stepD_5 s h (hm.lo 5 (by decide) (by decide))) (.go (fun s t h => stepD_6 s h (hm.lo 6 (by decide) (by decide))) (.stop fun s t h => exitD_7 s h hm.hi)))))))
theorem loopD_8 {p : Value} {n L : Nat} (hm : Many n 8) : LoopD p n L 8 1 := (.go (fun s t h => stepD_1 s h (hm.lo 1 (by decide) (by decide))) (.go (fun s t h => stepD_2 s h (hm.lo 2 (by decide) (by decide))) (.go (fun s t h => stepD_3 s h (hm.lo 3 (by decide) (by decide))) (.go (fun s t h => stepD_4 s h (hm.lo 4 (by decide) (by decide))) (.go (fun s t h => stepD_5 s h (hm.lo 5 (by decide) (by decide))) (.go (fun s t h => stepD_6 s h (hm.lo 6 (by decide) (by decide))) (.go (fun s t h => stepD_7 s h (hm.lo 7 (by decide) (by decide))) (.stop fun s t h => exitD_8 s h hm.hi))))))))
theorem loopD_9 {p : Value} {n L : Nat} (hm : Many n 9) : LoopD p n L 9 1 := (.go (fun s t h => stepD_1 s h (hm.lo 1 (by decide) (by decide))) (.go (fun s t h => stepD_2 s h (hm.lo 2 (by decide) (by decide))) (.go (fun s t h => stepD_3 s h (hm.lo 3 (by decide) (by decide))) (.go (fun s t h => stepD_4 s h (hm.lo 4 (by decide) (by decide))) (.go (fun s t h => stepD_5 s h (hm.lo 5 (by decide) (by decide))) (.go (fun s t h => stepD_6 s h (hm.lo 6 (by decide) (by decide))) (.go (fun s t h => stepD_7 s h (hm.lo 7 (by decide) (by decide))) (.go (fun s t h => stepD_8 s h (hm.lo 8 (by decide) (by decide))) (.stop fun s t h => exitD_9 s h hm.hi)))))))))
theorem loopD_10 {p : Value} {n L : Nat} (hm : Many n 10) : LoopD p n L 10 1 := (.go (fun s t h => stepD_1 s h (hm.lo 1 (by decide) (by decide))) (.go (fun s t h => stepD_2 s h (hm.lo 2 (by decide) (by decide))) (.go (fun s t h => stepD_3 s h (hm.lo 3 (by decide) (by decide))) (.go (fun s t h => stepD_4 s h (hm.lo 4 (by decide) (by decide))) (.go (fun s t h => stepD_5 s h (hm.lo 5 (by decide) (by decide))) (.go (fun s t h => stepD_6 s h (hm.lo 6 (by decide) (by decide))) (.go (fun s t h => stepD_7 s h (hm.lo 7 (by decide) (by decide))) (.go (fun s t h => stepD_8 s h (hm.lo 8 (by decide) (by decide))) (.go (fun s t h => stepD_9 s h (hm.lo 9 (by decide) (by decide))) (.stop fun s t h => exitD_10 s h hm.hi))))))))))
theorem loopD_11 {p : Value} {n L : Nat} (hm : Many n 11) : LoopD p n L 11 1 := (.go (fun s t h => stepD_1 s h (hm.lo 1 (by decide) (by decide))) (.go (fun s t h => stepD_2 s h (hm.lo 2 (by decide) (by decide))) (.go (fun s t h => stepD_3 s h (hm.lo 3 (by decide) (by decide))) (.go (fun s t h => stepD_4 s h (hm.lo 4 (by decide) (by decide))) (.go (fun s t h => stepD_5 s h (hm.lo 5 (by decide) (by decide))) (.go (fun s t h => stepD_6 s h (hm.lo 6 (by decide) (by decide))) (.go (fun s t h => stepD_7 s h (hm.lo 7 (by decide) (by decide))) (.go (fun s t h => stepD_8 s h (hm.lo 8 (by decide) (by decide))) (.go (fun s t h => stepD_9 s h (hm.lo 9 (by decide) (by decide))) (.go (fun s t h => stepD_10 s h (hm.lo 10 (by decide) (by decide))) (.stop fun s t h => exitD_11 s h hm.hi)))))))))))
theorem loopD {p : Value} {n L d : Nat} (hm : Many n d) (h1 : 1 ≤ d) (h2 : d ≤ 11) : LoopD p n L d 1 := by
  match d, h1, h2, hm with
  | 1, _, _, hm => exact loopD_1 hm
  | 2, _, _, hm => exact loopD_2 hm
  | 3, _, _, hm => exact loopD_3 hm
  | 4, _, _, hm => exact loopD_4 hm
  | 5, _, _, hm => exact loopD_5 hm
  | 6, _, _, hm => exact loopD_6 hm
  | 7, _, _, hm => exact loopD_7 hm
  | 8, _, _, hm => exact loopD_8 hm
  | 9, _, _, hm => exact loopD_9 hm
  | 10, _, _, hm => exact loopD_10 hm
  | 11, _, _, hm => exact loopD_11 hm
/-- The counting loop, whole. -/
theorem countD {p : Value} {n L d : Nat} (hm : Many n d) (h1 : 1 ≤ d) (h2 : d ≤ 11) (s : St) (t : F) (h : AtD p n L 1 t) : ∃ t', AtD p n L d t' ∧ FromD [.code (.block 0 (.loop dLoop))] t s .normal t' := by
  obtain ⟨t', q1, q2⟩ := loopD (p := p) (L := L) hm h1 h2 s t h
  refine ⟨t', q1, ?_⟩
  have q3 : FromD [.code (.loop dLoop)] t s (.jump (.exit 0)) t' := q2.steps fun _ _ _ _ _ _ _ _ => .one st_loop
  exact blockF_ok (P := Tryz.prog) (E := EB) (pointX_ok q3) (id := 0) (c := .loop dLoop) (ctx := ⟨19, none⟩) (fr := ⟨t, 42, []⟩) (s := s) (by rw [pointX_at]; simp)
end Go.Proofs.YtkgapncajjafoaaGreatDoor
