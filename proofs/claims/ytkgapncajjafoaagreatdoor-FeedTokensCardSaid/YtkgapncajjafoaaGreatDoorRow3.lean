/- feed.row.digits: whole. Printed by a program. -/
import Derived.Test.YtkgapncajjafoaaGreatDoorRow2
set_option linter.all false
set_option maxRecDepth 100000
namespace Go.Proofs.YtkgapncajjafoaaGreatDoor
open Go Go.Eng
section
variable {E : Env}
theorem opsF_val {call : ANext → St → Option (AEnd × St)} {ir : Bool} {ops : Array Oper} {i : Nat} {rest : List Nat} {fr : Fr} {s s' : St} {o : Oper} {v : Value}
    (ho : ops[i]? = some o) (hw : wantedA ops fr o = true) (he : evalOp E fr o s = some (.val v s')) : opsF E call ir ops (i :: rest) fr s = opsF E call ir ops rest (fr.put o.dst v) s' := by
  simp only [opsF, ho, hw, if_true, he, onNext]
end
abbrev FromS (c : List Item) (t : F) (s : St) (e : AExit) (t' : F) (s' : St) : Prop := From Tryz.prog EB ⟨19, none⟩ c ⟨t, 42, []⟩ s (e, ⟨t', 42, []⟩, s')
/-- The loop's variable, by how many rounds are left. -/
def kI : Nat → Int
  | 0 => .negSucc 0
  | k + 1 => .ofNat k
noncomputable def tOps : Array Oper := opsOf lTest
noncomputable def nOps : Array Oper := opsOf lNext
theorem lTest_eq : lTest = .region 4 tOps false := by kernel_rfl
theorem lNext_eq : lNext = .region 5 nOps false := by kernel_rfl
theorem tOps_range : List.range tOps.size = [0, 1] := by kernel_rfl
theorem nOps_range : List.range nOps.size = [0, 1, 2] := by kernel_rfl
noncomputable def tO (i : Nat) : Oper := (tOps[i]?).getD default
noncomputable def nO (i : Nat) : Oper := (nOps[i]?).getD default

theorem tg0 : tOps[0]? = some (tO 0) := by kernel_rfl
theorem tp0 : (tO 0).op = .move (.tmp 7) := by kernel_rfl
theorem td0 : (tO 0).dst = some 23 := by kernel_rfl
theorem tw0 (fr : Fr) : wantedA tOps fr (tO 0) = true := by kernel_rfl
theorem tg1 : tOps[1]? = some (tO 1) := by kernel_rfl
theorem tp1 : (tO 1).op = .binOp .geq 3 (.tmp 23) (.const (.int .i64 0)) 3 := by kernel_rfl
theorem td1 : (tO 1).dst = some 24 := by kernel_rfl
theorem tw1 (fr : Fr) : wantedA tOps fr (tO 1) = true := by kernel_rfl
theorem ng0 : nOps[0]? = some (nO 0) := by kernel_rfl
theorem np0 : (nO 0).op = .move (.tmp 7) := by kernel_rfl
theorem nd0 : (nO 0).dst = some 25 := by kernel_rfl
theorem nw0 (fr : Fr) : wantedA nOps fr (nO 0) = true := by kernel_rfl
theorem ng1 : nOps[1]? = some (nO 1) := by kernel_rfl
theorem np1 : (nO 1).op = .binOp .sub 3 (.tmp 25) (.const (.int .i64 1)) 3 := by kernel_rfl
theorem nd1 : (nO 1).dst = some 26 := by kernel_rfl
theorem nw1 (fr : Fr) : wantedA nOps fr (nO 1) = true := by kernel_rfl
theorem ng2 : nOps[2]? = some (nO 2) := by kernel_rfl
theorem np2 : (nO 2).op = .assign (.tmp 26) := by kernel_rfl
theorem nd2 : (nO 2).dst = some 7 := by kernel_rfl
theorem nw2 (fr : Fr) : wantedA nOps fr (nO 2) = true := by kernel_rfl
section
variable {t : F} {s : St}
theorem opsS {call : ANext → St → Option (AEnd × St)} {ops : Array Oper} {i d : Nat} {rest : List Nat} {o : Oper} {v : Value} (ho : ops[i]? = some o) (hw : ∀ fr, wantedA ops fr o = true) (hd : o.dst = some d) (hlt : Nat.blt d 42 = true)
    (he : evalOp EB ⟨t, 42, []⟩ o s = some (.val v s)) : opsF EB call false ops (i :: rest) ⟨t, 42, []⟩ s = opsF EB call false ops rest ⟨t.set d v, 42, []⟩ s := by
  rw [opsF_val ho (hw _) he, hd]
  simp [Fr.put, hlt]
theorem test_ops {j : Nat} (h7 : t.get 7 = .int .i64 (kI j)) : opsF EB noCall false tOps [0, 1] ⟨t, 42, []⟩ s = some (.normal, ⟨(t.set 23 (.int .i64 (kI j))).set 24 (.bool (Nat.blt 0 j)), 42, []⟩, s) := by
  rw [opsS (v := .int .i64 (kI j)) tg0 tw0 td0 rfl (by unfold evalOp; rw [tp0]; simp only [eval, tm, h7])]
  rw [opsS (v := .bool (Nat.blt 0 j)) tg1 tw1 td1 rfl (by
    unfold evalOp; rw [tp1]; simp only [eval, tm, F.get_set, flat, if_true, binV, numOp]
    cases j <;> rfl)]
  rfl
theorem next_ops {j : Nat} (hj : j < 16) (h7 : t.get 7 = .int .i64 (kI (j + 1))) : opsF EB noCall false nOps [0, 1, 2] ⟨t, 42, []⟩ s = some (.normal, ⟨((t.set 25 (.int .i64 (kI (j + 1)))).set 26 (.int .i64 (kI j))).set 7 (.int .i64 (kI j)), 42, []⟩, s) := by
  have hw : ∀ j < 16, wrapI .i64 (kI (j + 1) - 1) = kI j := by decide
  rw [opsS (v := .int .i64 (kI (j + 1))) ng0 nw0 nd0 rfl (by unfold evalOp; rw [np0]; simp only [eval, tm, h7])]
  rw [opsS (v := .int .i64 (kI j)) ng1 nw1 nd1 rfl (by
    unfold evalOp; rw [np1]; simp only [eval, tm, F.get_set, flat, if_true, binV, numOp]
    simp only [ne_eq, not_true_eq_false, if_false, hw j hj])]
  rw [opsS (v := .int .i64 (kI j)) ng2 nw2 nd2 rfl (by unfold evalOp; rw [np2]; simp only [eval, tm, F.get_set, if_true])]
  rfl
end
theorem FromS.region {c : Nat} {ops : Array Oper} {l : List Nat} {t t' : F} {s s' : St} (hl : List.range ops.size = l) (h : opsF EB noCall false ops l ⟨t, 42, []⟩ s = some (.normal, ⟨t', 42, []⟩, s')) : FromS [.code (.region c ops false)] t s .normal t' s' := by
  refine regionF_ok (P := Tryz.prog) EB_ok mixed noCall_ok (ctx := ⟨19, none⟩) (id := c) (draw := false) ?_
  unfold regionF
  simp only [Bool.false_eq_true, if_false]
  rw [hl]
  exact h
def layB (n k : Nat) : Value := .int .u8 (.ofNat (hexD (n / 2 ^ (4 * k) % 16)))
/-- A digit is laid. -/
def lay1 (r n k : Nat) (s : St) : St :=
  match s.h.get r with
  | some (.cells [.slice base m _] _ _ _ _) =>
    match growV (s.alloc (.cells [layB n k] 5 1 false true)) 5 1 base m 0 1 [layB n k] with
    | some (v, s2) => s2.put r (.cells [v] 69 1 false true)
    | none => s
  | _ => s
/-- The digits from a place down are laid. -/
def lays (r n : Nat) : Nat → St → St
  | 0, s => s
  | k + 1, s => lays r n k (lay1 r n k s)
/-- A row: so many bytes are laid. -/
inductive Inv (r m : Nat) (s : St) : Prop where
  | nil (hm : m = 0) (hr : r < s.nx) (hg : s.h.get r = some (.cells [.slice none 0 0] 69 1 false true)) : Inv r m s
  | some (b : Nat) (cs : List Value) (w : Nat) (hl : cs.length = m) (hb : b < s.nx) (hne : b ≠ r) (hr : r < s.nx) (hg : s.h.get r = some (.cells [.slice (some ⟨b, 0, some m⟩) m 0] 69 1 false true)) (hc : s.h.get b = some (.cells cs 5 w false false)) : Inv r m s
theorem alloc_get (s : St) (o : AObj) (i : Nat) : (s.alloc o).h.get i = if i = s.nx then some o else s.h.get i := HQ.get_set _ _ _ _
theorem put_get (s : St) (b : Nat) (o : AObj) (i : Nat) : (s.put b o).h.get i = if i = b then some o else s.h.get i := HQ.get_set _ _ _ _
theorem alloc_nx (s : St) (o : AObj) : (s.alloc o).nx = s.nx + 1 := rfl
theorem put_nx (s : St) (b : Nat) (o : AObj) : (s.put b o).nx = s.nx := rfl
theorem lay1_ok {r m : Nat} {s : St} (n k : Nat) (h : Inv r m s) : ∃ base b s2, s.h.get r = some (.cells [.slice base m 0] 69 1 false true) ∧ r < s.nx ∧
    growV (s.alloc (.cells [layB n k] 5 1 false true)) 5 1 base m 0 1 [layB n k] = some (.slice (some ⟨b, 0, some (m + 1)⟩) (m + 1) 0, s2) ∧ s2.h.get r = some (.cells [.slice base m 0] 69 1 false true) ∧
    lay1 r n k s = s2.put r (.cells [.slice (some ⟨b, 0, some (m + 1)⟩) (m + 1) 0] 69 1 false true) ∧ Inv r (m + 1) (lay1 r n k s) := by
  cases h with
  | nil hm hr hg =>
    subst hm
    have hgr : growV (s.alloc (.cells [layB n k] 5 1 false true)) 5 1 none 0 0 1 [layB n k] = some (.slice (some ⟨s.nx + 1, 0, some 1⟩) 1 0, (s.alloc (.cells [layB n k] 5 1 false true)).alloc (.cells [layB n k] 5 1 false false)) := grow_nil
    have hl : lay1 r n k s = ((s.alloc (.cells [layB n k] 5 1 false true)).alloc (.cells [layB n k] 5 1 false false)).put r (.cells [.slice (some ⟨s.nx + 1, 0, some 1⟩) 1 0] 69 1 false true) := by
      unfold lay1; rw [hg]; simp only [hgr]
    refine ⟨none, s.nx + 1, _, hg, hr, hgr, ?_, hl, ?_⟩
    · rw [alloc_get, alloc_get, alloc_nx, if_neg (by omega), if_neg (by omega), hg]
    · rw [hl]
      refine .some (s.nx + 1) [layB n k] 1 rfl ?_ (by omega) ?_ ?_ ?_
      · rw [put_nx, alloc_nx, alloc_nx]; omega
      · rw [put_nx, alloc_nx, alloc_nx]; omega
      · rw [put_get, if_pos rfl]
      · rw [put_get, if_neg (by omega), alloc_get, alloc_nx, if_pos rfl]
  | some b cs w hl hb hne hr hg hc =>
    have hc' : (s.alloc (.cells [layB n k] 5 1 false true)).h.get b = some (.cells cs 5 w false false) := by rw [alloc_get, if_neg (by omega), hc]
    have hgr : growV (s.alloc (.cells [layB n k] 5 1 false true)) 5 1 (some ⟨b, 0, some m⟩) m 0 1 [layB n k] = some (.slice (some ⟨b, 0, some (m + 1)⟩) (m + 1) 0, (s.alloc (.cells [layB n k] 5 1 false true)).put b (.cells (cs ++ [layB n k]) 5 w false false)) := grow_some hc' hl
    have hl' : lay1 r n k s = ((s.alloc (.cells [layB n k] 5 1 false true)).put b (.cells (cs ++ [layB n k]) 5 w false false)).put r (.cells [.slice (some ⟨b, 0, some (m + 1)⟩) (m + 1) 0] 69 1 false true) := by
      unfold lay1; rw [hg]; simp only [hgr]
    refine ⟨some ⟨b, 0, some m⟩, b, _, hg, hr, hgr, ?_, hl', ?_⟩
    · rw [put_get, if_neg (by omega), alloc_get, if_neg (by omega), hg]
    · rw [hl']
      refine .some b (cs ++ [layB n k]) w (by simp [hl]) ?_ hne ?_ ?_ ?_
      · rw [put_nx, put_nx, alloc_nx]; omega
      · rw [put_nx, put_nx, alloc_nx]; omega
      · rw [put_get, if_pos rfl]
      · rw [put_get, if_neg hne, put_get, if_pos rfl]
/-- What the loop keeps of its frame. -/
structure AtL (r n j : Nat) (t : F) : Prop where
  h0 : t.get 0 = pR r
  h1 : t.get 1 = .int .u64 (.ofNat n)
  h7 : t.get 7 = .int .i64 (kI j)
theorem roundL {r n k m : Nat} {t : F} {s : St} (ha : AtL r n (k + 1) t) (hi : Inv r m s) (hn : n < 2 ^ 64) (hk : k < 16) (hm : m < 1000) : ∃ t', AtL r n k t' ∧ Inv r (m + 1) (lay1 r n k s) ∧ FromS [.code lLoop] t s .normal t' (lay1 r n k s) := by
  obtain ⟨base, b, s2, hg, hr, hgr, hg2, hl, hinv⟩ := lay1_ok n k hi
  have f1 := FromS.region (c := 4) tOps_range (test_ops (s := s) ha.h7)
  rw [← lTest_eq] at f1
  have f2 := f1.seq (From.cond (a := .skip) (b := .exit 2) (c := .tmp 24) (t := true) (by simp [eval, Fr.tmp, F.get_set]) (From.now fun _ _ _ _ _ _ _ _ => st_skip))
  generalize hT : (t.set 23 (.int .i64 (kI (k + 1)))).set 24 (.bool (Nat.blt 0 (k + 1))) = T at f2
  have g0 : T.get 0 = pR r := by rw [← hT]; simp [F.get_set, ha.h0]
  have g1 : T.get 1 = .int .u64 (.ofNat n) := by rw [← hT]; simp [F.get_set, ha.h1]
  have g7 : T.get 7 = .int .i64 (kI (k + 1)) := by rw [← hT]; simp [F.get_set, ha.h7]
  have hreg := region6 (call := noCall) g0 g1 g7 hn hk hm hr hg hgr hg2
  have f3 := regionF_ok (P := Tryz.prog) EB_ok mixed noCall_ok (ctx := ⟨19, none⟩) (id := 6) (draw := true) hreg
  rw [← hl] at f3
  generalize hU : t13 T (pR r) (.slice base m 0) n k s.nx (.slice (some ⟨b, 0, some (m + 1)⟩) (m + 1) 0) = U at f3
  have f4 : FromS [.code (.block 3 (.region 6 lOps true))] T s .normal U (lay1 r n k s) := blockF_ok (P := Tryz.prog) (E := EB) (pointX_ok f3) (id := 3) (c := .region 6 lOps true) (ctx := ⟨19, none⟩) (by rw [pointX_at])
  have u0 : U.get 0 = pR r := by rw [← hU]; simp [t13, t12, F.get_set, g0]
  have u1 : U.get 1 = .int .u64 (.ofNat n) := by rw [← hU]; simp [t13, t12, F.get_set, g1]
  have u7 : U.get 7 = .int .i64 (kI (k + 1)) := by rw [← hU]; simp [t13, t12, F.get_set, g7]
  have f5 := FromS.region (c := 5) nOps_range (next_ops (s := lay1 r n k s) hk u7)
  rw [← lNext_eq] at f5
  have f6 := f2.seq (f4.seq f5)
  refine ⟨_, ⟨?_, ?_, ?_⟩, hinv, by rw [lLoop_eq]; exact f6⟩
  · simp [F.get_set, u0]
  · simp [F.get_set, u1]
  · simp [F.get_set]
theorem exitL {r n : Nat} {t : F} {s : St} (ha : AtL r n 0 t) : ∃ t', FromS [.code lLoop] t s (.jump (.exit 2)) t' s := by
  have f1 := FromS.region (c := 4) tOps_range (test_ops (s := s) ha.h7)
  rw [← lTest_eq] at f1
  have f2 := f1.seq (From.cond (a := .skip) (b := .exit 2) (c := .tmp 24) (t := false) (by simp [eval, Fr.tmp, F.get_set]; decide) (From.jumps (c := .exit 2) fun k => by simp))
  have f3 := (f2.leaves (x := .code (.seq (.block 3 (.region 6 lOps true)) lNext)) (by intro h; cases h) (fun _ _ _ => rfl) (fun _ _ _ => rfl)).steps (a := [.code (.seq (.seq lTest (.cond (.tmp 24) .skip (.exit 2))) (.seq (.block 3 (.region 6 lOps true)) lNext))]) fun _ _ _ _ _ _ _ _ => .one st_seq
  exact ⟨_, by rw [lLoop_eq]; exact f3⟩
theorem loopL {r n : Nat} (hn : n < 2 ^ 64) : ∀ (j m : Nat) (t : F) (s : St), j ≤ 16 → m + j < 1000 → AtL r n j t → Inv r m s → ∃ t', Inv r (m + j) (lays r n j s) ∧ FromS [.code lLoop, .inLoop lLoop] t s (.jump (.exit 2)) t' (lays r n j s)
  | 0, m, t, s, _, _, ha, hi => by
    obtain ⟨t', h1⟩ := exitL (s := s) ha
    exact ⟨t', hi, h1.leaves (by intro h; cases h) (fun _ _ _ => rfl) (fun _ _ _ => rfl)⟩
  | k + 1, m, t, s, hj, hm, ha, hi => by
    obtain ⟨t1, h1, h2, h3⟩ := roundL ha hi hn (by omega) (by omega)
    obtain ⟨t', h4, h5⟩ := loopL hn k (m + 1) t1 _ (by omega) (by omega) h1 h2
    exact ⟨t', by rw [show m + (k + 1) = m + 1 + k by omega]; exact h4, h3.andThen (h5.steps (a := [.inLoop lLoop]) fun _ _ _ _ _ _ _ _ => .one st_inLoop)⟩
/-! the head of the second loop -/
theorem hd_1_1 (p : Value) (n : Nat) (x3 x4 x5 x7 x8 x9 x10 x11 x12 x13 x14 x15 x16 x17 x18 : Value) (s : St) :
    Eng.exec EB 20 ⟨19, none⟩ (seqL dRest) ⟨frD p n 1 1 x3 x4 x5 x7 x8 x9 x10 x11 x12 x13 x14 x15 x16 x17 x18, 42, []⟩ s = some (.normal, ⟨((((frD p n 1 1 x3 x4 x5 x7 x8 x9 x10 x11 x12 x13 x14 x15 x16 x17 x18).set 19 (.int .i64 (.ofNat 1))).set 20 (.int .i64 (.ofNat 1))).set 21 (.int .i64 (.ofNat 1))).set 22 (.int .i64 (.ofNat 0)) |>.set 7 (.int .i64 (.ofNat 0)), 42, []⟩, s) := by kernel_rfl
theorem hd_2_1 (p : Value) (n : Nat) (x3 x4 x5 x7 x8 x9 x10 x11 x12 x13 x14 x15 x16 x17 x18 : Value) (s : St) :
    Eng.exec EB 20 ⟨19, none⟩ (seqL dRest) ⟨frD p n 1 2 x3 x4 x5 x7 x8 x9 x10 x11 x12 x13 x14 x15 x16 x17 x18, 42, []⟩ s = some (.normal, ⟨((((frD p n 1 2 x3 x4 x5 x7 x8 x9 x10 x11 x12 x13 x14 x15 x16 x17 x18).set 19 (.int .i64 (.ofNat 2))).set 20 (.int .i64 (.ofNat 1))).set 21 (.int .i64 (.ofNat 2))).set 22 (.int .i64 (.ofNat 1)) |>.set 7 (.int .i64 (.ofNat 1)), 42, []⟩, s) := by kernel_rfl
theorem hd_3_1 (p : Value) (n : Nat) (x3 x4 x5 x7 x8 x9 x10 x11 x12 x13 x14 x15 x16 x17 x18 : Value) (s : St) :
    Eng.exec EB 20 ⟨19, none⟩ (seqL dRest) ⟨frD p n 1 3 x3 x4 x5 x7 x8 x9 x10 x11 x12 x13 x14 x15 x16 x17 x18, 42, []⟩ s = some (.normal, ⟨((((frD p n 1 3 x3 x4 x5 x7 x8 x9 x10 x11 x12 x13 x14 x15 x16 x17 x18).set 19 (.int .i64 (.ofNat 3))).set 20 (.int .i64 (.ofNat 1))).set 21 (.int .i64 (.ofNat 3))).set 22 (.int .i64 (.ofNat 2)) |>.set 7 (.int .i64 (.ofNat 2)), 42, []⟩, s) := by kernel_rfl
theorem hd_4_1 (p : Value) (n : Nat) (x3 x4 x5 x7 x8 x9 x10 x11 x12 x13 x14 x15 x16 x17 x18 : Value) (s : St) :
    Eng.exec EB 20 ⟨19, none⟩ (seqL dRest) ⟨frD p n 1 4 x3 x4 x5 x7 x8 x9 x10 x11 x12 x13 x14 x15 x16 x17 x18, 42, []⟩ s = some (.normal, ⟨((((frD p n 1 4 x3 x4 x5 x7 x8 x9 x10 x11 x12 x13 x14 x15 x16 x17 x18).set 19 (.int .i64 (.ofNat 4))).set 20 (.int .i64 (.ofNat 1))).set 21 (.int .i64 (.ofNat 4))).set 22 (.int .i64 (.ofNat 3)) |>.set 7 (.int .i64 (.ofNat 3)), 42, []⟩, s) := by kernel_rfl
theorem hd_5_1 (p : Value) (n : Nat) (x3 x4 x5 x7 x8 x9 x10 x11 x12 x13 x14 x15 x16 x17 x18 : Value) (s : St) :
    Eng.exec EB 20 ⟨19, none⟩ (seqL dRest) ⟨frD p n 1 5 x3 x4 x5 x7 x8 x9 x10 x11 x12 x13 x14 x15 x16 x17 x18, 42, []⟩ s = some (.normal, ⟨((((frD p n 1 5 x3 x4 x5 x7 x8 x9 x10 x11 x12 x13 x14 x15 x16 x17 x18).set 19 (.int .i64 (.ofNat 5))).set 20 (.int .i64 (.ofNat 1))).set 21 (.int .i64 (.ofNat 5))).set 22 (.int .i64 (.ofNat 4)) |>.set 7 (.int .i64 (.ofNat 4)), 42, []⟩, s) := by kernel_rfl
theorem hd_6_1 (p : Value) (n : Nat) (x3 x4 x5 x7 x8 x9 x10 x11 x12 x13 x14 x15 x16 x17 x18 : Value) (s : St) :
    Eng.exec EB 20 ⟨19, none⟩ (seqL dRest) ⟨frD p n 1 6 x3 x4 x5 x7 x8 x9 x10 x11 x12 x13 x14 x15 x16 x17 x18, 42, []⟩ s = some (.normal, ⟨((((frD p n 1 6 x3 x4 x5 x7 x8 x9 x10 x11 x12 x13 x14 x15 x16 x17 x18).set 19 (.int .i64 (.ofNat 6))).set 20 (.int .i64 (.ofNat 1))).set 21 (.int .i64 (.ofNat 6))).set 22 (.int .i64 (.ofNat 5)) |>.set 7 (.int .i64 (.ofNat 5)), 42, []⟩, s) := by kernel_rfl
theorem hd_7_1 (p : Value) (n : Nat) (x3 x4 x5 x7 x8 x9 x10 x11 x12 x13 x14 x15 x16 x17 x18 : Value) (s : St) :
    Eng.exec EB 20 ⟨19, none⟩ (seqL dRest) ⟨frD p n 1 7 x3 x4 x5 x7 x8 x9 x10 x11 x12 x13 x14 x15 x16 x17 x18, 42, []⟩ s = some (.normal, ⟨((((frD p n 1 7 x3 x4 x5 x7 x8 x9 x10 x11 x12 x13 x14 x15 x16 x17 x18).set 19 (.int .i64 (.ofNat 7))).set 20 (.int .i64 (.ofNat 1))).set 21 (.int .i64 (.ofNat 7))).set 22 (.int .i64 (.ofNat 6)) |>.set 7 (.int .i64 (.ofNat 6)), 42, []⟩, s) := by kernel_rfl
theorem hd_8_1 (p : Value) (n : Nat) (x3 x4 x5 x7 x8 x9 x10 x11 x12 x13 x14 x15 x16 x17 x18 : Value) (s : St) :
    Eng.exec EB 20 ⟨19, none⟩ (seqL dRest) ⟨frD p n 1 8 x3 x4 x5 x7 x8 x9 x10 x11 x12 x13 x14 x15 x16 x17 x18, 42, []⟩ s = some (.normal, ⟨((((frD p n 1 8 x3 x4 x5 x7 x8 x9 x10 x11 x12 x13 x14 x15 x16 x17 x18).set 19 (.int .i64 (.ofNat 8))).set 20 (.int .i64 (.ofNat 1))).set 21 (.int .i64 (.ofNat 8))).set 22 (.int .i64 (.ofNat 7)) |>.set 7 (.int .i64 (.ofNat 7)), 42, []⟩, s) := by kernel_rfl
theorem hd_9_1 (p : Value) (n : Nat) (x3 x4 x5 x7 x8 x9 x10 x11 x12 x13 x14 x15 x16 x17 x18 : Value) (s : St) :
    Eng.exec EB 20 ⟨19, none⟩ (seqL dRest) ⟨frD p n 1 9 x3 x4 x5 x7 x8 x9 x10 x11 x12 x13 x14 x15 x16 x17 x18, 42, []⟩ s = some (.normal, ⟨((((frD p n 1 9 x3 x4 x5 x7 x8 x9 x10 x11 x12 x13 x14 x15 x16 x17 x18).set 19 (.int .i64 (.ofNat 9))).set 20 (.int .i64 (.ofNat 1))).set 21 (.int .i64 (.ofNat 9))).set 22 (.int .i64 (.ofNat 8)) |>.set 7 (.int .i64 (.ofNat 8)), 42, []⟩, s) := by kernel_rfl
theorem hd_10_1 (p : Value) (n : Nat) (x3 x4 x5 x7 x8 x9 x10 x11 x12 x13 x14 x15 x16 x17 x18 : Value) (s : St) :
    Eng.exec EB 20 ⟨19, none⟩ (seqL dRest) ⟨frD p n 1 10 x3 x4 x5 x7 x8 x9 x10 x11 x12 x13 x14 x15 x16 x17 x18, 42, []⟩ s = some (.normal, ⟨((((frD p n 1 10 x3 x4 x5 x7 x8 x9 x10 x11 x12 x13 x14 x15 x16 x17 x18).set 19 (.int .i64 (.ofNat 10))).set 20 (.int .i64 (.ofNat 1))).set 21 (.int .i64 (.ofNat 10))).set 22 (.int .i64 (.ofNat 9)) |>.set 7 (.int .i64 (.ofNat 9)), 42, []⟩, s) := by kernel_rfl
theorem hd_11_1 (p : Value) (n : Nat) (x3 x4 x5 x7 x8 x9 x10 x11 x12 x13 x14 x15 x16 x17 x18 : Value) (s : St) :
    Eng.exec EB 20 ⟨19, none⟩ (seqL dRest) ⟨frD p n 1 11 x3 x4 x5 x7 x8 x9 x10 x11 x12 x13 x14 x15 x16 x17 x18, 42, []⟩ s = some (.normal, ⟨((((frD p n 1 11 x3 x4 x5 x7 x8 x9 x10 x11 x12 x13 x14 x15 x16 x17 x18).set 19 (.int .i64 (.ofNat 11))).set 20 (.int .i64 (.ofNat 1))).set 21 (.int .i64 (.ofNat 11))).set 22 (.int .i64 (.ofNat 10)) |>.set 7 (.int .i64 (.ofNat 10)), 42, []⟩, s) := by kernel_rfl
theorem hd_1_8 (p : Value) (n : Nat) (x3 x4 x5 x7 x8 x9 x10 x11 x12 x13 x14 x15 x16 x17 x18 : Value) (s : St) :
    Eng.exec EB 20 ⟨19, none⟩ (seqL dRest) ⟨frD p n 8 1 x3 x4 x5 x7 x8 x9 x10 x11 x12 x13 x14 x15 x16 x17 x18, 42, []⟩ s = some (.normal, ⟨((((frD p n 8 1 x3 x4 x5 x7 x8 x9 x10 x11 x12 x13 x14 x15 x16 x17 x18).set 19 (.int .i64 (.ofNat 1))).set 20 (.int .i64 (.ofNat 8))).set 21 (.int .i64 (.ofNat 8))).set 22 (.int .i64 (.ofNat 7)) |>.set 7 (.int .i64 (.ofNat 7)), 42, []⟩, s) := by kernel_rfl
theorem hd_2_8 (p : Value) (n : Nat) (x3 x4 x5 x7 x8 x9 x10 x11 x12 x13 x14 x15 x16 x17 x18 : Value) (s : St) :
    Eng.exec EB 20 ⟨19, none⟩ (seqL dRest) ⟨frD p n 8 2 x3 x4 x5 x7 x8 x9 x10 x11 x12 x13 x14 x15 x16 x17 x18, 42, []⟩ s = some (.normal, ⟨((((frD p n 8 2 x3 x4 x5 x7 x8 x9 x10 x11 x12 x13 x14 x15 x16 x17 x18).set 19 (.int .i64 (.ofNat 2))).set 20 (.int .i64 (.ofNat 8))).set 21 (.int .i64 (.ofNat 8))).set 22 (.int .i64 (.ofNat 7)) |>.set 7 (.int .i64 (.ofNat 7)), 42, []⟩, s) := by kernel_rfl
theorem hd_3_8 (p : Value) (n : Nat) (x3 x4 x5 x7 x8 x9 x10 x11 x12 x13 x14 x15 x16 x17 x18 : Value) (s : St) :
    Eng.exec EB 20 ⟨19, none⟩ (seqL dRest) ⟨frD p n 8 3 x3 x4 x5 x7 x8 x9 x10 x11 x12 x13 x14 x15 x16 x17 x18, 42, []⟩ s = some (.normal, ⟨((((frD p n 8 3 x3 x4 x5 x7 x8 x9 x10 x11 x12 x13 x14 x15 x16 x17 x18).set 19 (.int .i64 (.ofNat 3))).set 20 (.int .i64 (.ofNat 8))).set 21 (.int .i64 (.ofNat 8))).set 22 (.int .i64 (.ofNat 7)) |>.set 7 (.int .i64 (.ofNat 7)), 42, []⟩, s) := by kernel_rfl
theorem hd_4_8 (p : Value) (n : Nat) (x3 x4 x5 x7 x8 x9 x10 x11 x12 x13 x14 x15 x16 x17 x18 : Value) (s : St) :
    Eng.exec EB 20 ⟨19, none⟩ (seqL dRest) ⟨frD p n 8 4 x3 x4 x5 x7 x8 x9 x10 x11 x12 x13 x14 x15 x16 x17 x18, 42, []⟩ s = some (.normal, ⟨((((frD p n 8 4 x3 x4 x5 x7 x8 x9 x10 x11 x12 x13 x14 x15 x16 x17 x18).set 19 (.int .i64 (.ofNat 4))).set 20 (.int .i64 (.ofNat 8))).set 21 (.int .i64 (.ofNat 8))).set 22 (.int .i64 (.ofNat 7)) |>.set 7 (.int .i64 (.ofNat 7)), 42, []⟩, s) := by kernel_rfl
theorem hd_5_8 (p : Value) (n : Nat) (x3 x4 x5 x7 x8 x9 x10 x11 x12 x13 x14 x15 x16 x17 x18 : Value) (s : St) :
    Eng.exec EB 20 ⟨19, none⟩ (seqL dRest) ⟨frD p n 8 5 x3 x4 x5 x7 x8 x9 x10 x11 x12 x13 x14 x15 x16 x17 x18, 42, []⟩ s = some (.normal, ⟨((((frD p n 8 5 x3 x4 x5 x7 x8 x9 x10 x11 x12 x13 x14 x15 x16 x17 x18).set 19 (.int .i64 (.ofNat 5))).set 20 (.int .i64 (.ofNat 8))).set 21 (.int .i64 (.ofNat 8))).set 22 (.int .i64 (.ofNat 7)) |>.set 7 (.int .i64 (.ofNat 7)), 42, []⟩, s) := by kernel_rfl
theorem hd_6_8 (p : Value) (n : Nat) (x3 x4 x5 x7 x8 x9 x10 x11 x12 x13 x14 x15 x16 x17 x18 : Value) (s : St) :
    Eng.exec EB 20 ⟨19, none⟩ (seqL dRest) ⟨frD p n 8 6 x3 x4 x5 x7 x8 x9 x10 x11 x12 x13 x14 x15 x16 x17 x18, 42, []⟩ s = some (.normal, ⟨((((frD p n 8 6 x3 x4 x5 x7 x8 x9 x10 x11 x12 x13 x14 x15 x16 x17 x18).set 19 (.int .i64 (.ofNat 6))).set 20 (.int .i64 (.ofNat 8))).set 21 (.int .i64 (.ofNat 8))).set 22 (.int .i64 (.ofNat 7)) |>.set 7 (.int .i64 (.ofNat 7)), 42, []⟩, s) := by kernel_rfl
theorem hd_7_8 (p : Value) (n : Nat) (x3 x4 x5 x7 x8 x9 x10 x11 x12 x13 x14 x15 x16 x17 x18 : Value) (s : St) :
    Eng.exec EB 20 ⟨19, none⟩ (seqL dRest) ⟨frD p n 8 7 x3 x4 x5 x7 x8 x9 x10 x11 x12 x13 x14 x15 x16 x17 x18, 42, []⟩ s = some (.normal, ⟨((((frD p n 8 7 x3 x4 x5 x7 x8 x9 x10 x11 x12 x13 x14 x15 x16 x17 x18).set 19 (.int .i64 (.ofNat 7))).set 20 (.int .i64 (.ofNat 8))).set 21 (.int .i64 (.ofNat 8))).set 22 (.int .i64 (.ofNat 7)) |>.set 7 (.int .i64 (.ofNat 7)), 42, []⟩, s) := by kernel_rfl
theorem hd_8_8 (p : Value) (n : Nat) (x3 x4 x5 x7 x8 x9 x10 x11 x12 x13 x14 x15 x16 x17 x18 : Value) (s : St) :
    Eng.exec EB 20 ⟨19, none⟩ (seqL dRest) ⟨frD p n 8 8 x3 x4 x5 x7 x8 x9 x10 x11 x12 x13 x14 x15 x16 x17 x18, 42, []⟩ s = some (.normal, ⟨((((frD p n 8 8 x3 x4 x5 x7 x8 x9 x10 x11 x12 x13 x14 x15 x16 x17 x18).set 19 (.int .i64 (.ofNat 8))).set 20 (.int .i64 (.ofNat 8))).set 21 (.int .i64 (.ofNat 8))).set 22 (.int .i64 (.ofNat 7)) |>.set 7 (.int .i64 (.ofNat 7)), 42, []⟩, s) := by kernel_rfl
theorem hd_9_8 (p : Value) (n : Nat) (x3 x4 x5 x7 x8 x9 x10 x11 x12 x13 x14 x15 x16 x17 x18 : Value) (s : St) :
    Eng.exec EB 20 ⟨19, none⟩ (seqL dRest) ⟨frD p n 8 9 x3 x4 x5 x7 x8 x9 x10 x11 x12 x13 x14 x15 x16 x17 x18, 42, []⟩ s = some (.normal, ⟨((((frD p n 8 9 x3 x4 x5 x7 x8 x9 x10 x11 x12 x13 x14 x15 x16 x17 x18).set 19 (.int .i64 (.ofNat 9))).set 20 (.int .i64 (.ofNat 8))).set 21 (.int .i64 (.ofNat 9))).set 22 (.int .i64 (.ofNat 8)) |>.set 7 (.int .i64 (.ofNat 8)), 42, []⟩, s) := by kernel_rfl
theorem hd_10_8 (p : Value) (n : Nat) (x3 x4 x5 x7 x8 x9 x10 x11 x12 x13 x14 x15 x16 x17 x18 : Value) (s : St) :
    Eng.exec EB 20 ⟨19, none⟩ (seqL dRest) ⟨frD p n 8 10 x3 x4 x5 x7 x8 x9 x10 x11 x12 x13 x14 x15 x16 x17 x18, 42, []⟩ s = some (.normal, ⟨((((frD p n 8 10 x3 x4 x5 x7 x8 x9 x10 x11 x12 x13 x14 x15 x16 x17 x18).set 19 (.int .i64 (.ofNat 10))).set 20 (.int .i64 (.ofNat 8))).set 21 (.int .i64 (.ofNat 10))).set 22 (.int .i64 (.ofNat 9)) |>.set 7 (.int .i64 (.ofNat 9)), 42, []⟩, s) := by kernel_rfl
theorem hd_11_8 (p : Value) (n : Nat) (x3 x4 x5 x7 x8 x9 x10 x11 x12 x13 x14 x15 x16 x17 x18 : Value) (s : St) :
    Eng.exec EB 20 ⟨19, none⟩ (seqL dRest) ⟨frD p n 8 11 x3 x4 x5 x7 x8 x9 x10 x11 x12 x13 x14 x15 x16 x17 x18, 42, []⟩ s = some (.normal, ⟨((((frD p n 8 11 x3 x4 x5 x7 x8 x9 x10 x11 x12 x13 x14 x15 x16 x17 x18).set 19 (.int .i64 (.ofNat 11))).set 20 (.int .i64 (.ofNat 8))).set 21 (.int .i64 (.ofNat 11))).set 22 (.int .i64 (.ofNat 10)) |>.set 7 (.int .i64 (.ofNat 10)), 42, []⟩, s) := by kernel_rfl
theorem frD_0 (p : Value) (n L d : Nat) (x3 x4 x5 x7 x8 x9 x10 x11 x12 x13 x14 x15 x16 x17 x18 : Value) : (frD p n L d x3 x4 x5 x7 x8 x9 x10 x11 x12 x13 x14 x15 x16 x17 x18).get 0 = p := by simp [frD, F.get_ofList]
theorem frD_1 (p : Value) (n L d : Nat) (x3 x4 x5 x7 x8 x9 x10 x11 x12 x13 x14 x15 x16 x17 x18 : Value) : (frD p n L d x3 x4 x5 x7 x8 x9 x10 x11 x12 x13 x14 x15 x16 x17 x18).get 1 = .int .u64 (.ofNat n) := by simp [frD, F.get_ofList]
theorem headL {r n L d : Nat} {t : F} (s : St) (ht : AtD (pR r) n L d t) (h1 : 1 ≤ d) (h2 : d ≤ 11) (hL : L = 1 ∨ L = 8) : ∃ t', AtL r n (max d L) t' ∧ FromS [.code (seqL dRest)] t s .normal t' s := by
  obtain ⟨x3, x4, x5, x7, x8, x9, x10, x11, x12, x13, x14, x15, x16, x17, x18, rfl⟩ := ht
  have fin : ∀ (K : Nat) (t' : F), t'.get 7 = .int .i64 (kI K) → t'.get 0 = pR r → t'.get 1 = .int .u64 (.ofNat n) → AtL r n K t' := fun K t' a b c => ⟨b, c, a⟩
  rcases hL with rfl | rfl
  · match d, h1, h2 with
    | 1, _, _ => exact ⟨_, fin _ _ (by simp [F.get_set]; rfl) (by simp [F.get_set, frD_0]) (by simp [F.get_set, frD_1]), FromD.exec (hd_1_1 ..)⟩
    | 2, _, _ => exact ⟨_, fin _ _ (by simp [F.get_set]; rfl) (by simp [F.get_set, frD_0]) (by simp [F.get_set, frD_1]), FromD.exec (hd_2_1 ..)⟩
    | 3, _, _ => exact ⟨_, fin _ _ (by simp [F.get_set]; rfl) (by simp [F.get_set, frD_0]) (by simp [F.get_set, frD_1]), FromD.exec (hd_3_1 ..)⟩
    | 4, _, _ => exact ⟨_, fin _ _ (by simp [F.get_set]; rfl) (by simp [F.get_set, frD_0]) (by simp [F.get_set, frD_1]), FromD.exec (hd_4_1 ..)⟩
    | 5, _, _ => exact ⟨_, fin _ _ (by simp [F.get_set]; rfl) (by simp [F.get_set, frD_0]) (by simp [F.get_set, frD_1]), FromD.exec (hd_5_1 ..)⟩
    | 6, _, _ => exact ⟨_, fin _ _ (by simp [F.get_set]; rfl) (by simp [F.get_set, frD_0]) (by simp [F.get_set, frD_1]), FromD.exec (hd_6_1 ..)⟩
    | 7, _, _ => exact ⟨_, fin _ _ (by simp [F.get_set]; rfl) (by simp [F.get_set, frD_0]) (by simp [F.get_set, frD_1]), FromD.exec (hd_7_1 ..)⟩
    | 8, _, _ => exact ⟨_, fin _ _ (by simp [F.get_set]; rfl) (by simp [F.get_set, frD_0]) (by simp [F.get_set, frD_1]), FromD.exec (hd_8_1 ..)⟩
    | 9, _, _ => exact ⟨_, fin _ _ (by simp [F.get_set]; rfl) (by simp [F.get_set, frD_0]) (by simp [F.get_set, frD_1]), FromD.exec (hd_9_1 ..)⟩
    | 10, _, _ => exact ⟨_, fin _ _ (by simp [F.get_set]; rfl) (by simp [F.get_set, frD_0]) (by simp [F.get_set, frD_1]), FromD.exec (hd_10_1 ..)⟩
    | 11, _, _ => exact ⟨_, fin _ _ (by simp [F.get_set]; rfl) (by simp [F.get_set, frD_0]) (by simp [F.get_set, frD_1]), FromD.exec (hd_11_1 ..)⟩
  · match d, h1, h2 with
    | 1, _, _ => exact ⟨_, fin _ _ (by simp [F.get_set]; rfl) (by simp [F.get_set, frD_0]) (by simp [F.get_set, frD_1]), FromD.exec (hd_1_8 ..)⟩
    | 2, _, _ => exact ⟨_, fin _ _ (by simp [F.get_set]; rfl) (by simp [F.get_set, frD_0]) (by simp [F.get_set, frD_1]), FromD.exec (hd_2_8 ..)⟩
    | 3, _, _ => exact ⟨_, fin _ _ (by simp [F.get_set]; rfl) (by simp [F.get_set, frD_0]) (by simp [F.get_set, frD_1]), FromD.exec (hd_3_8 ..)⟩
    | 4, _, _ => exact ⟨_, fin _ _ (by simp [F.get_set]; rfl) (by simp [F.get_set, frD_0]) (by simp [F.get_set, frD_1]), FromD.exec (hd_4_8 ..)⟩
    | 5, _, _ => exact ⟨_, fin _ _ (by simp [F.get_set]; rfl) (by simp [F.get_set, frD_0]) (by simp [F.get_set, frD_1]), FromD.exec (hd_5_8 ..)⟩
    | 6, _, _ => exact ⟨_, fin _ _ (by simp [F.get_set]; rfl) (by simp [F.get_set, frD_0]) (by simp [F.get_set, frD_1]), FromD.exec (hd_6_8 ..)⟩
    | 7, _, _ => exact ⟨_, fin _ _ (by simp [F.get_set]; rfl) (by simp [F.get_set, frD_0]) (by simp [F.get_set, frD_1]), FromD.exec (hd_7_8 ..)⟩
    | 8, _, _ => exact ⟨_, fin _ _ (by simp [F.get_set]; rfl) (by simp [F.get_set, frD_0]) (by simp [F.get_set, frD_1]), FromD.exec (hd_8_8 ..)⟩
    | 9, _, _ => exact ⟨_, fin _ _ (by simp [F.get_set]; rfl) (by simp [F.get_set, frD_0]) (by simp [F.get_set, frD_1]), FromD.exec (hd_9_8 ..)⟩
    | 10, _, _ => exact ⟨_, fin _ _ (by simp [F.get_set]; rfl) (by simp [F.get_set, frD_0]) (by simp [F.get_set, frD_1]), FromD.exec (hd_10_8 ..)⟩
    | 11, _, _ => exact ⟨_, fin _ _ (by simp [F.get_set]; rfl) (by simp [F.get_set, frD_0]) (by simp [F.get_set, frD_1]), FromD.exec (hd_11_8 ..)⟩
theorem first_eq (p : Value) (n L : Nat) (s : St) : Eng.exec EB 20 ⟨19, none⟩ dHead ⟨F.ofList [p, .int .u64 (.ofNat n), .int .i64 (.ofNat L)], 42, []⟩ s = some (.normal, ⟨frD p n L 1 undef undef undef undef undef undef undef undef undef undef undef undef undef undef undef, 42, []⟩, s) := by kernel_rfl
theorem f19_ft : EB.ft.get 19 = some Tryz.f19 := by kernel_rfl
theorem f19_body : Tryz.f19.body = some d0 := by kernel_rfl
theorem f19_n : Tryz.f19.ntmps = 42 := by kernel_rfl
theorem f19_res : Tryz.f19.results = #[] := by kernel_rfl
/-- digits: what it leaves. -/
theorem digits_ok {r n L d m : Nat} {s : St} (hn : n < 2 ^ 64) (hm : Many n d) (h1 : 1 ≤ d) (h2 : d ≤ 11) (hL : L = 1 ∨ L = 8) (hi : Inv r m s) (hmm : m < 900) :
    CallOk Tryz.prog EB (.enter 19 [pR r, .int .u64 (.ofNat n), .int .i64 (.ofNat L)]) s (.ret (.tuple #[]), lays r n (max d L) s) := by
  have f1 := FromD.exec (first_eq (pR r) n L s)
  obtain ⟨t2, q1, f2⟩ := countD (p := pR r) (L := L) hm h1 h2 s _ ⟨undef, undef, undef, undef, undef, undef, undef, undef, undef, undef, undef, undef, undef, undef, undef, rfl⟩
  obtain ⟨t3, q2, f3⟩ := headL s q1 h1 h2 hL
  obtain ⟨t4, q3, f4⟩ := loopL hn (max d L) m t3 s (by rcases hL with rfl | rfl <;> omega) (by rcases hL with rfl | rfl <;> omega) q2 hi
  have f5 : FromS [.code (.loop lLoop)] t3 s (.jump (.exit 2)) t4 _ := f4.steps fun _ _ _ _ _ _ _ _ => .one st_loop
  have f6 : FromS [.code (.block 2 (.loop lLoop))] t3 s .normal t4 (lays r n (max d L) s) := blockF_ok (P := Tryz.prog) (E := EB) (pointX_ok f5) (id := 2) (c := .loop lLoop) (ctx := ⟨19, none⟩) (by rw [pointX_at]; simp)
  have f7 : FromS [.code d0] (F.ofList [pR r, .int .u64 (.ofNat n), .int .i64 (.ofNat L)]) s .normal t4 (lays r n (max d L) s) := by
    rw [d0_eq]
    refine f1.seq (f2.seq ?_)
    rw [dRest_eq]
    exact f3.seq f6
  refine enterF_ok EB_ok EB_true (pointX_ok f7) noCall_ok (f := 19) ?_
  unfold enterF
  have ho : EB.orc 19 [pR r, .int .u64 (.ofNat n), .int .i64 (.ofNat L)] s = none := rfl
  simp only [ho, f19_ft, f19_body, f19_n, List.length_cons, List.length_nil]
  rw [show max (0 + 1 + 1 + 1) 42 = 42 from rfl, pointX_at]
  simp only [leaveF, f19_res]
  rfl
end Go.Proofs.YtkgapncajjafoaaGreatDoor
