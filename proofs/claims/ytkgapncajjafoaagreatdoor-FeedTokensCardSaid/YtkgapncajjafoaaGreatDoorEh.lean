/- The abstract evaluator of the model, part h: definitions and laws, of no program. -/
import Derived.Test.YtkgapncajjafoaaGreatDoorEg
set_option linter.all false
/- The evaluator for the kernel: operations, made small. -/
namespace Go.Eng
section
variable {E : Env} {N : Nat}
theorem putC_mk {dst : Option Tmp} {p} (hp : putC N dst = .mk p) (v : Value) (t : F) (d : List Deferred) (k : F → Out) : p v t k = k ((⟨t, N, d⟩ : Fr).put dst v).t := by
  have := putC_ok N dst v t d k
  rw [hp] at this
  exact this
theorem putC_ex (dst : Option Tmp) : ∃ p, putC N dst = .mk p := by cases putC N dst; exact ⟨_, rfl⟩
theorem OSpec.val {c : Cl} {o : Oper} (h : ∀ (call : Call') (round : Option Nat) (k : K) t d s r, c.run call round k t d s = some r →
    ∃ v s', evalOp E ⟨t, N, d⟩ o s = some (.val v s') ∧ k ((⟨t, N, d⟩ : Fr).put o.dst v).t d s' = some r) : OSpec E N c o := by
  intro call round k t d s r hr
  obtain ⟨v, s', h1, h2⟩ := h call round k t d s r hr
  exact ⟨_, h1, .inl ⟨_, d, s', by simp only [onNext]; rw [put_fr], h2⟩⟩
theorem OSpec.unit {c : Cl} {o : Oper} (h : ∀ (call : Call') (round : Option Nat) (k : K) t d s r, c.run call round k t d s = some r →
    ∃ s', evalOp E ⟨t, N, d⟩ o s = some (.skip s') ∧ k ((⟨t, N, d⟩ : Fr).put o.dst undef).t d s' = some r) : OSpec E N c o := by
  intro call round k t d s r hr
  obtain ⟨s', h1, h2⟩ := h call round k t d s r hr
  exact ⟨_, h1, .inl ⟨_, d, s', by simp only [onNext]; rw [put_fr], h2⟩⟩
theorem OSpec.bad {o : Oper} : OSpec E N .bad o := fun _ _ _ _ _ _ _ h => (Cl.bad_run h).elim
end

section
variable (E : Env) (N : Nat)
noncomputable def slot (fs : Array Field) (f : Nat) : Option Nat := match fs[f]? with
  | some fd => if (E.size fd.type).any (· ≠ 0) then some fd.offset else none
  | none => none
noncomputable def fieldAddrC (dst : Option Tmp) (ty : TypeId) (x : Operand) (f : Nat) : Cl :=
  match E.under ty, opd E x, putC N dst with
  | some (.struct fields), .val g, .mk p => match slot E fields f with
    | some off => .mk fun _ _ k t d s => pointerK (g t) fun a => someK a fun a => addrK a fun b o sp => p (.pointer (some ⟨b, Nat.add o off, sp⟩)) t fun t => k t d s
    | none => .bad
  | _, _, _ => .bad
noncomputable def moveC (dst : Option Tmp) (x : Operand) : Cl :=
  match opd E x, putC N dst with
  | .val g, .mk p => .mk fun _ _ k t d s => p (g t) t fun t => k t d s
  | _, _ => .bad
noncomputable def loadC (dst : Option Tmp) (ty : TypeId) (a : Operand) : Cl :=
  match E.isAgg ty, E.size ty, opd E a, putC N dst with
  | some false, _, .val g, .mk p => .mk fun _ _ k t d s => pointerK (g t) fun a => someK a fun a => addrK a fun b o sp => someK sp fun hi => loadK b o hi s fun v => p v t fun t => k t d s
  | some true, some n, .val g, .mk p => .mk fun _ _ k t d s => pointerK (g t) fun a => someK a fun a => addrK a fun b o sp => someK sp fun hi => getK b s fun obj => cellsK obj fun cs _ wsz _ _ =>
      ifK (Nat.ble wsz hi) (ifK (Nat.ble (Nat.add o n) hi) (dropK cs o fun l => takeK l n fun l => p (.agg ⟨l⟩) t fun t => k t d s))
  | _, _, _, _ => .bad
noncomputable def storeC (dst : Option Tmp) (ty : TypeId) (a x : Operand) : Cl :=
  match E.size ty, opd E a, opd E x, putC N dst with
  | some n, .val g, .val gx, .mk p => bif Nat.beq n 1 then
      .mk fun _ _ k t d s => pointerK (g t) fun a => someK a fun a => addrK a fun b o sp => someK sp fun hi => getK b s fun obj => cellsK obj fun cs e _ frz ex =>
        @Bool.rec (fun _ => Out) (ifK (lenB cs hi) (cellsOf (gx t) fun l => @List.rec Value (fun _ => Out) none (fun v _ _ => ifK (oneB v) (ifK (lenB l 1) (setK cs o v fun cs => putK b (.cells cs e hi false ex) s fun s => p undef t fun t => k t d s))) l)) none frz
    else .mk fun _ _ k t d s => pointerK (g t) fun a => someK a fun a => addrK a fun b o sp => someK sp fun hi => getK b s fun obj => cellsK obj fun cs e _ frz ex =>
        @Bool.rec (fun _ => Out) (ifK (lenB cs hi) (cellsOf (gx t) fun l => ifK (lenB l n) (ifK (Nat.ble (Nat.add o n) hi) (ifK (allOneB l) (takeK cs o fun c1 => dropK cs (Nat.add o n) fun c2 => appK l c2 fun c3 => appK c1 c3 fun cs => putK b (.cells cs e hi false ex) s fun s => p undef t fun t => k t d s))))) none frz
  | _, _, _, _ => .bad
noncomputable def allocC (dst : Option Tmp) (elem : TypeId) : Cl :=
  match E.zero elem, putC N dst with
  | some z, .mk p => .mk fun _ _ k t d s => allocK (.cells z.cells.toList elem z.cells.toList.length false true) s fun b s => p (.pointer (some ⟨b, 0, some z.cells.toList.length⟩)) t fun t => k t d s
  | _, _ => .bad
noncomputable def boxC (dst : Option Tmp) (elem : TypeId) (x : Operand) : Cl :=
  match opd E x, putC N dst with
  | .val g, .mk p => .mk fun _ _ k t d s => cellsOf (g t) fun l => allocK (.cells l elem l.length false true) s fun b s => p (.pointer (some ⟨b, 0, some l.length⟩)) t fun t => k t d s
  | _, _ => .bad
noncomputable def natK {β : Type} (i : Int) (f : Nat → Option β) : Option β := @Int.rec (fun _ => Option β) f (fun _ => none) i
noncomputable def indexAddrC (dst : Option Tmp) (ty : TypeId) (x i : Operand) : Cl :=
  match E.under ty, opd E x, opd E i, putC N dst with
  | some (.slice elem), .val g, .val gi, .mk p => match E.size elem with
    | some size => .mk fun _ _ k t d s => sliceK (g t) fun a n _ => someK a fun a => intK (gi t) fun _ i => natK i fun i => ifK (Nat.ble (Nat.succ i) n) (addrK a fun b o sp => p (.pointer (some ⟨b, Nat.add o (Nat.mul i size), sp⟩)) t fun t => k t d s)
    | none => .bad
  | some (.array len elem), .val g, .val gi, .mk p => match E.size elem with
    | some size => .mk fun _ _ k t d s => pointerK (g t) fun a => someK a fun a => intK (gi t) fun _ i => natK i fun i => ifK (Nat.ble (Nat.succ i) len) (addrK a fun b o sp => p (.pointer (some ⟨b, Nat.add o (Nat.mul i size), sp⟩)) t fun t => k t d s)
    | none => .bad
  | _, _, _, _ => .bad
noncomputable def isShift : BinOp → Bool
  | .shl | .shr => true
  | _ => false
noncomputable def binC (o : Oper) (op : BinOp) (ty : TypeId) (x y : Operand) : Cl :=
  match E.under ty, opd E x, opd E y, putC N o.dst with
  | some (.int j), .val g, .val gy, .mk p => match kindC j, numC op j with
    | .mk kd, .mk f => bif isShift op then
        .mk fun _ _ k t d s => intK (g t) fun j1 a => kd j1 (intK (gy t) fun _ b => f a b fun v => p v t fun t => k t d s)
      else .mk fun _ _ k t d s => intK (g t) fun j1 a => kd j1 (intK (gy t) fun j2 b => kd j2 (f a b fun v => p v t fun t => k t d s))
    | _, _ => opC E N o
  | _, _, _, _ => opC E N o
noncomputable def lenC (o : Oper) (c : Go.Call) : Cl :=
  match c.callee, c.args.toList, c.argTypes[0]? with
  | .builtin .len, [x], some ty => match E.under ty, opd E x, putC N o.dst with
    | some (.slice _), .val g, .mk p => .mk fun _ _ k t d s => sliceK (g t) fun _ n _ => p (.int .i64 (.ofNat n)) t fun t => k t d s
    | _, _, _ => slowC E N o
  | _, _, _ => slowC E N o
noncomputable def pickC (dst : Option Tmp) (c a b : Operand) : Cl :=
  match opd E c, opd E a, opd E b, putC N dst with
  | .val gc, .val ga, .val gb, .mk p => .mk fun _ _ k t d s => bitK (gc t) fun c => @Bool.rec (fun _ => Out) (p (gb t) t fun t => k t d s) (p (ga t) t fun t => k t d s) c
  | _, _, _, _ => .bad
noncomputable def noNil (x : Value) (slow yes : Out) : Out := @Value.rec (fun _ => Out) (fun _ => PUnit) (fun _ => PUnit) (fun _ => yes) (fun _ _ => yes) (fun _ _ => yes) (fun _ _ _ => yes) (fun _ => yes) (fun a => @Option.rec Addr (fun _ => Out) none (fun _ => yes) a) (fun _ _ _ => yes) (fun _ => yes) (fun _ => yes) (fun _ _ _ _ _ => slow) none (fun _ _ _ => yes) none (fun _ _ => yes) (fun _ _ => yes) (fun _ _ => PUnit.unit) PUnit.unit (fun _ _ _ _ => PUnit.unit) x
noncomputable def nilCheckC (o : Oper) (x : Operand) : Cl :=
  match opd E x, putC N o.dst with
  | .val g, .mk p => .mk fun call round k t d s => noNil (g t) ((slowC E N o).run call round k t d s) (p (g t) t fun t => k t d s)
  | _, _ => .bad
noncomputable def extractC (dst : Option Tmp) (x : Operand) (i : Nat) : Cl :=
  match opd E x, putC N dst with
  | .val g, .mk p => .mk fun _ _ k t d s => tupleK (g t) fun vs => nthK vs.toList i fun v => p v t fun t => k t d s
  | _, _ => .bad
noncomputable def notC (o : Oper) (op : UnOp) (x : Operand) : Cl :=
  match op, opd E x, putC N o.dst with
  | .not, .val g, .mk p => .mk fun _ _ k t d s => bitK (g t) fun b => p (.bool (@Bool.rec (fun _ => Bool) true false b)) t fun t => k t d s
  | _, _, _ => opC E N o
/-- A conversion between whole numbers. -/
noncomputable def convC (o : Oper) (src dst : TypeId) (x : Operand) : Cl :=
  match E.under src, E.under dst, opd E x, putC N o.dst with
  | some (.int _), some (.int j), .val g, .mk p => .mk fun _ _ k t d s => intK (g t) fun _ n => @Int.rec (fun _ => Out) (fun m => @Bool.rec (fun _ => Out) (p (.int j (wrapI j (.ofNat m))) t fun t => k t d s) (p (.int j (.ofNat m)) t fun t => k t d s) (Nat.blt m (limit j))) (fun m => p (.int j (wrapI j (.negSucc m))) t fun t => k t d s) n
  | _, _, _, _ => slowC E N o
end

section
variable {E : Env} {N : Nat}
theorem evalOp_spot {a : Addr} {b o hi : Nat} {sp : Option Nat} : a = ⟨b, o, sp⟩ → True := fun _ => trivial

theorem fieldAddrC_ok {dst ty x f tyy pos aft gd} : OSpec E N (fieldAddrC E N dst ty x f) ⟨dst, .fieldAddr ty x f, tyy, pos, aft, gd⟩ := by
  unfold fieldAddrC
  split
  · rename_i fields g p hu hg hp
    split
    · rename_i off hs
      refine .val fun call round k t d s r h => ?_
      obtain ⟨a, ha, h⟩ := pointerK_some h
      replace h := someK_some h; obtain ⟨a, rfl, h⟩ := h
      rw [addrK_eq] at h
      rw [putC_mk hp _ _ d] at h
      refine ⟨_, s, ?_, h⟩
      unfold slot at hs
      simp only [evalOp, opd_ok hg, fieldAddrV, hu, ha]
      split at hs
      · rename_i fd hfd
        rw [hfd]
        simp only
        split at hs
        · rename_i hany
          rw [if_pos hany]
          cases hs
          rfl
        · cases hs
      · cases hs
    · exact .bad
  · exact .bad

theorem moveC_ok {dst x tyy pos aft gd} : OSpec E N (moveC E N dst x) ⟨dst, .move x, tyy, pos, aft, gd⟩ ∧ OSpec E N (moveC E N dst x) ⟨dst, .assign x, tyy, pos, aft, gd⟩ := by
  unfold moveC
  split
  · rename_i g p hg hp
    constructor <;>
    · refine .val fun call round k t d s r h => ?_
      rw [Cl.run_mk] at h
      rw [putC_mk hp _ _ d] at h
      exact ⟨_, s, by simp only [evalOp, opd_ok hg], h⟩
  · exact ⟨.bad, .bad⟩

theorem loadC_ok {dst ty a tyy pos aft gd} : OSpec E N (loadC E N dst ty a) ⟨dst, .load ty a, tyy, pos, aft, gd⟩ := by
  unfold loadC
  split
  · rename_i x1 g p ha hg hp
    refine .val fun call round k t d s r h => ?_
    obtain ⟨a, ha', h⟩ := pointerK_some h
    replace h := someK_some h; obtain ⟨a, rfl, h⟩ := h
    rw [addrK_eq] at h
    obtain ⟨hi, hsp, h⟩ := someK_some h
    obtain ⟨cs, e, w, z, y, v, hobj, h1', h2', hv, h⟩ := loadK_some h
    rw [putC_mk hp _ _ d] at h
    refine ⟨v, s, ?_, h⟩
    have ht : (cs.drop a.off).take 1 = [v] := by
      rw [List.take_one, List.head?_drop, hv]; rfl
    simp only [evalOp, opd_ok hg, ha', loadV, ha, readN, hobj, hsp, h1', true_and, h2', if_true, ht]
  · rename_i n g p ha hn hg hp
    refine .val fun call round k t d s r h => ?_
    obtain ⟨a, ha', h⟩ := pointerK_some h
    replace h := someK_some h; obtain ⟨a, rfl, h⟩ := h
    rw [addrK_eq] at h
    obtain ⟨hi, hsp, h⟩ := someK_some h
    obtain ⟨obj, hobj, h⟩ := getK_some h
    replace h := cellsK_some h; obtain ⟨cs, e, w, z, y, rfl, h⟩ := h
    obtain ⟨h1, h⟩ := ifK_some h
    obtain ⟨h2, h⟩ := ifK_some h
    rw [dropK_eq, takeK_eq] at h
    rw [putC_mk hp _ _ d] at h
    refine ⟨_, s, ?_, h⟩
    have h1' := Nat.le_of_ble_eq_true h1
    have h2' : a.off + n ≤ hi := Nat.le_of_ble_eq_true h2
    simp only [evalOp, opd_ok hg, ha', loadV, ha, hn, readN, hobj, hsp, h1', true_and, h2', if_true, Option.map_some]
  · exact .bad

theorem storeC_ok {dst ty a x tyy pos aft gd} : OSpec E N (storeC E N dst ty a x) ⟨dst, .store ty a x, tyy, pos, aft, gd⟩ := by
  unfold storeC
  split
  · rename_i n g gx p hn hg hgx hp
    cases hn1 : Nat.beq n 1 with
    | true =>
      obtain rfl := Nat.eq_of_beq_eq_true hn1
      simp only [cond]
      refine .unit fun call round k t d s r h => ?_
      obtain ⟨a, ha', h⟩ := pointerK_some h
      replace h := someK_some h; obtain ⟨a, rfl, h⟩ := h
      rw [addrK_eq] at h
      obtain ⟨hi, hsp, h⟩ := someK_some h
      obtain ⟨obj, hobj, h⟩ := getK_some h
      replace h := cellsK_some h; obtain ⟨cs, e, w, z, y, rfl, h⟩ := h
      cases z with
      | true => cases h
      | false =>
      obtain ⟨h1, h⟩ := ifK_some h
      have h1 := lenB_eq h1
      rw [cellsOf_eq] at h
      cases hl : (gx t).cells.toList with
      | nil => rw [hl] at h; cases h
      | cons v l =>
        rw [hl] at h
        simp only at h
        obtain ⟨h2, h⟩ := ifK_some h
        obtain ⟨h3, h⟩ := ifK_some h
        have h3 := lenB_eq h3
        have hl0 : l = [] := by cases l with | nil => rfl | cons => simp at h3
        subst hl0
        obtain ⟨h4, h⟩ := setK_some h
        rw [putK_eq] at h
        rw [putC_mk hp _ _ d] at h
        refine ⟨_, ?_, h⟩
        have hsz : (gx t).cells.size = 1 := by rw [← Array.length_toList, hl]; rfl
        simp only [evalOp, opd_ok hg, opd_ok hgx, ha', storeV, hn, hsz, if_true, writeN, hobj, hsp, hl]
        rw [if_pos ⟨h1.symm, by simp only [List.length_singleton]; omega, by simp [(oneB_eq h2).1]⟩]
        simp
    | false =>
      simp only [cond]
      refine .unit fun call round k t d s r h => ?_
      obtain ⟨a, ha', h⟩ := pointerK_some h
      replace h := someK_some h; obtain ⟨a, rfl, h⟩ := h
      rw [addrK_eq] at h
      obtain ⟨hi, hsp, h⟩ := someK_some h
      obtain ⟨obj, hobj, h⟩ := getK_some h
      replace h := cellsK_some h; obtain ⟨cs, e, w, z, y, rfl, h⟩ := h
      cases z with
      | true => cases h
      | false =>
      obtain ⟨h1, h⟩ := ifK_some h
      have h1 := lenB_eq h1
      rw [cellsOf_eq] at h
      obtain ⟨h2, h⟩ := ifK_some h
      have h2 := lenB_eq h2
      obtain ⟨h3, h⟩ := ifK_some h
      obtain ⟨h4, h⟩ := ifK_some h
      rw [takeK_eq, dropK_eq, appK_eq, appK_eq, putK_eq] at h
      rw [putC_mk hp _ _ d] at h
      refine ⟨_, ?_, h⟩
      have hsz : (gx t).cells.size = n := by rw [← Array.length_toList]; exact h2
      have h3' : a.off + n ≤ hi := Nat.le_of_ble_eq_true h3
      simp only [evalOp, opd_ok hg, opd_ok hgx, ha', storeV, hn, hsz, if_true, writeN, hobj, hsp]
      rw [if_pos ⟨h1.symm, by rw [h2]; exact h3', allOneB_eq h4⟩, h2]
      simp [List.append_assoc]
  · exact .bad

theorem allocC_ok {dst elem tyy pos aft gd} : OSpec E N (allocC E N dst elem) ⟨dst, .alloc elem, tyy, pos, aft, gd⟩ := by
  unfold allocC
  split
  · rename_i z p hz hp
    refine .val fun call round k t d s r h => ?_
    rw [Cl.run_mk, allocK_eq, putC_mk hp _ _ d] at h
    exact ⟨_, _, by simp only [evalOp, hz]; rfl, h⟩
  · exact .bad
theorem boxC_ok {dst elem x tyy pos aft gd} : OSpec E N (boxC E N dst elem x) ⟨dst, .box elem x, tyy, pos, aft, gd⟩ := by
  unfold boxC
  split
  · rename_i g p hg hp
    refine .val fun call round k t d s r h => ?_
    rw [Cl.run_mk, cellsOf_eq, allocK_eq, putC_mk hp _ _ d] at h
    exact ⟨_, _, by simp only [evalOp, opd_ok hg]; rfl, h⟩
  · exact .bad
theorem natK_some {β : Type} {i : Int} {f} {r : β} (h : natK i f = some r) : ∃ n, i = .ofNat n ∧ f n = some r := by
  cases i with
  | ofNat n => exact ⟨n, rfl, h⟩
  | negSucc n => cases h
theorem indexAddrC_ok {dst ty x i tyy pos aft gd} : OSpec E N (indexAddrC E N dst ty x i) ⟨dst, .indexAddr ty x i, tyy, pos, aft, gd⟩ := by
  unfold indexAddrC
  split
  · rename_i elem g gi p hu hg hgi hp
    split
    · rename_i size hsz
      refine .val fun call round k t d s r h => ?_
      obtain ⟨a, n, c, ha, h⟩ := sliceK_some h
      replace h := someK_some h; obtain ⟨a, rfl, h⟩ := h
      obtain ⟨j, i, hi, h⟩ := intK_some h
      replace h := natK_some h; obtain ⟨i, rfl, h⟩ := h
      obtain ⟨h1, h⟩ := ifK_some h
      rw [addrK_eq, putC_mk hp _ _ d] at h
      refine ⟨_, s, ?_, h⟩
      have h1' : i < n := Nat.le_of_ble_eq_true h1
      simp only [evalOp, opd_ok hg, opd_ok hgi, indexAddrV, hu, ha, hi, hsz]
      rw [if_pos ⟨Int.natCast_nonneg _, Int.ofNat_lt.mpr h1'⟩]
      rfl
    · exact .bad
  · rename_i len elem g gi p hu hg hgi hp
    split
    · rename_i size hsz
      refine .val fun call round k t d s r h => ?_
      obtain ⟨a, ha, h⟩ := pointerK_some h
      replace h := someK_some h; obtain ⟨a, rfl, h⟩ := h
      obtain ⟨j, i, hi, h⟩ := intK_some h
      replace h := natK_some h; obtain ⟨i, rfl, h⟩ := h
      obtain ⟨h1, h⟩ := ifK_some h
      rw [addrK_eq, putC_mk hp _ _ d] at h
      refine ⟨_, s, ?_, h⟩
      have h1' : i < len := Nat.le_of_ble_eq_true h1
      simp only [evalOp, opd_ok hg, opd_ok hgi, indexAddrV, hu, ha, hi, hsz]
      rw [if_pos ⟨Int.natCast_nonneg _, Int.ofNat_lt.mpr h1'⟩]
      rfl
    · exact .bad
  · exact .bad

theorem binC_ok {dst op ty x y yt tyy pos aft gd} : OSpec E N (binC E N ⟨dst, .binOp op ty x y yt, tyy, pos, aft, gd⟩ op ty x y) ⟨dst, .binOp op ty x y yt, tyy, pos, aft, gd⟩ := by
  unfold binC
  split
  · rename_i j g gy p hu hg hgy hp
    split
    · rename_i kd f hkd hf
      have hns := numC_ok op j hf
      cases hsh : isShift op with
      | true =>
        refine .val fun call round k t d s r h => ?_
        obtain ⟨j1, a, ha, h⟩ := intK_some h
        replace h := kindC_some hkd h; obtain ⟨rfl, h⟩ := h
        obtain ⟨j2, b, hb, h⟩ := intK_some h
        obtain ⟨v, hv, h⟩ := hns _ _ _ _ h
        rw [putC_mk hp _ _ d] at h
        refine ⟨v, s, ?_, h⟩
        have e : ∀ op, isShift op = true → numOp op j1 a j2 b = numOp op j1 a j1 b := by
          intro op hh
          cases op <;> first | rfl | cases hh | skip
        have : numOp op j1 a j2 b = some v := (e op hsh).trans hv
        simp only [evalOp, opd_ok hg, opd_ok hgy, binV, ha, hb, this]
      | false =>
        refine .val fun call round k t d s r h => ?_
        obtain ⟨j1, a, ha, h⟩ := intK_some h
        replace h := kindC_some hkd h; obtain ⟨rfl, h⟩ := h
        obtain ⟨j2, b, hb, h⟩ := intK_some h
        replace h := kindC_some hkd h; obtain ⟨rfl, h⟩ := h
        obtain ⟨v, hv, h⟩ := hns _ _ _ _ h
        rw [putC_mk hp _ _ d] at h
        exact ⟨v, s, by simp only [evalOp, opd_ok hg, opd_ok hgy, binV, ha, hb, hv], h⟩
    · exact opC_ok E N _
  · exact opC_ok E N _

theorem lenC_ok {dst c tyy pos aft gd} : OSpec E N (lenC E N ⟨dst, .call c, tyy, pos, aft, gd⟩ c) ⟨dst, .call c, tyy, pos, aft, gd⟩ := by
  unfold lenC
  split
  · rename_i x ty hc ha ht
    split
    · rename_i g p el hu hg hp
      refine .val fun call round k t d s r h => ?_
      obtain ⟨a, n, c', hs, h⟩ := sliceK_some h
      rw [putC_mk hp _ _ d] at h
      refine ⟨_, s, ?_, h⟩
      simp only [evalOp, callO, ha, evals, opd_ok hg, hc, builtinV, lenV, ht, hu, hs, Option.map_some]
      rfl
    · exact slowC_ok E N _
  · exact slowC_ok E N _

theorem pickC_ok {dst c a b tyy pos aft gd} : OSpec E N (pickC E N dst c a b) ⟨dst, .pick c a b, tyy, pos, aft, gd⟩ := by
  unfold pickC
  split
  · rename_i gc ga gb p h1 h2 h3 hp
    refine .val fun call round k t d s r h => ?_
    obtain ⟨b, hb, h⟩ := bitK_some h
    cases b with
    | false =>
      simp only at h
      rw [putC_mk hp _ _ d] at h
      exact ⟨_, s, by simp only [evalOp, opd_ok h1, opd_ok h2, opd_ok h3, hb], h⟩
    | true =>
      simp only at h
      rw [putC_mk hp _ _ d] at h
      exact ⟨_, s, by simp only [evalOp, opd_ok h1, opd_ok h2, opd_ok h3, hb], h⟩
  · exact .bad

theorem nilCheckC_ok {dst x tyy pos aft gd} : OSpec E N (nilCheckC E N ⟨dst, .nilCheck x, tyy, pos, aft, gd⟩ x) ⟨dst, .nilCheck x, tyy, pos, aft, gd⟩ := by
  unfold nilCheckC
  split
  · rename_i g p hg hp
    intro call round k t d s r h
    rw [Cl.run_mk] at h
    have slow := slowC_ok E N ⟨dst, .nilCheck x, tyy, pos, aft, gd⟩ call round k t d s r
    have fast : ∀ v, g t = v → (p (g t) t fun t => k t d s) = some r → evalOp E ⟨t, N, d⟩ ⟨dst, .nilCheck x, tyy, pos, aft, gd⟩ s = some (.val v s) → ∃ a, evalOp E ⟨t, N, d⟩ ⟨dst, .nilCheck x, tyy, pos, aft, gd⟩ s = some a ∧
      ((∃ t1 d1 s1, onNext call round.isSome ⟨dst, .nilCheck x, tyy, pos, aft, gd⟩ ⟨t, N, d⟩ s a = some (.normal, ⟨t1, N, d1⟩, s1) ∧ k t1 d1 s1 = some r) ∨ (onNext call round.isSome ⟨dst, .nilCheck x, tyy, pos, aft, gd⟩ ⟨t, N, d⟩ s a = some r ∧ r.1 ≠ .normal)) := by
      intro v hv h2 h3
      rw [putC_mk hp _ _ d] at h2
      exact ⟨_, h3, .inl ⟨_, d, s, by simp only [onNext]; rw [put_fr], hv ▸ h2⟩⟩
    have he := opd_ok hg t N d
    cases hv : g t with
    | pointer a =>
      rw [hv] at h he
      cases a with
      | none => cases h
      | some a => exact fast _ hv (by rw [hv]; exact h) (by simp only [evalOp, he])
    | func f a b => rw [hv] at h; exact slow h
    | nilFunc => rw [hv] at h; cases h
    | nilIface => rw [hv] at h; cases h
    | _ => rw [hv] at h he; exact fast _ hv (by rw [hv]; exact h) (by simp only [evalOp, he])
  · exact .bad

theorem extractC_ok {dst x i tyy pos aft gd} : OSpec E N (extractC E N dst x i) ⟨dst, .extract x i, tyy, pos, aft, gd⟩ := by
  unfold extractC
  split
  · rename_i g p hg hp
    refine .val fun call round k t d s r h => ?_
    obtain ⟨vs, hv, h⟩ := tupleK_some h
    obtain ⟨v, h1, h⟩ := nthK_some h
    rw [putC_mk hp _ _ d] at h
    exact ⟨v, s, by simp only [evalOp, opd_ok hg, hv, h1], h⟩
  · exact .bad

theorem notC_ok {dst op ty x tyy pos aft gd} : OSpec E N (notC E N ⟨dst, .unOp op ty x, tyy, pos, aft, gd⟩ op x) ⟨dst, .unOp op ty x, tyy, pos, aft, gd⟩ := by
  unfold notC
  split
  · rename_i g p hg hp
    refine .val fun call round k t d s r h => ?_
    obtain ⟨b, hb, h⟩ := bitK_some h
    rw [putC_mk hp _ _ d] at h
    refine ⟨_, s, ?_, h⟩
    simp only [evalOp, opd_ok hg, hb, unV, not_rec]
  · exact opC_ok E N _

theorem convC_ok {dst a b x tyy pos aft gd} : OSpec E N (convC E N ⟨dst, .convert a b x, tyy, pos, aft, gd⟩ a b x) ⟨dst, .convert a b x, tyy, pos, aft, gd⟩ := by
  unfold convC
  split
  · rename_i j0 j g p h1 h2 hg hp
    refine .val fun call round k t d s r h => ?_
    obtain ⟨j1, n, hn, h⟩ := intK_some h
    have e : ∀ v, v = Value.int j (wrapI j n) → evalOp E ⟨t, N, d⟩ ⟨dst, .convert a b x, tyy, pos, aft, gd⟩ s = some (.val v s) := by
      rintro v rfl
      simp only [evalOp, opd_ok hg, hn, convV, h1, h2]
    cases n with
    | ofNat m =>
      simp only at h
      rcases boolRec_some h with ⟨hb, h⟩ | ⟨hb, h⟩
      · rw [putC_mk hp _ _ d] at h
        exact ⟨_, s, e _ (by rw [wrapI_ofNat j m hb]), h⟩
      · rw [putC_mk hp _ _ d] at h
        exact ⟨_, s, e _ rfl, h⟩
    | negSucc m =>
      simp only at h
      rw [putC_mk hp _ _ d] at h
      exact ⟨_, s, e _ rfl, h⟩
  · exact slowC_ok E N _
end
end Go.Eng

/- The evaluator for the kernel: calls and append; all operations. -/
namespace Go.Eng
/-- What a call's end makes. -/
noncomputable def resK (x : Option (AEnd × St)) (kv : Value → St → Out) (kp : List PanicEntry → St → Out) : Out :=
  @Option.rec _ (fun _ => Out) none (fun p => @Prod.rec _ _ (fun _ => Out) (fun e s => @AEnd.rec (fun _ => Out) (fun v => kv v s) (fun c => kp c s) e) p) x
theorem resK_some {x : Option (AEnd × St)} {kv : Value → St → Out} {kp : List PanicEntry → St → Out} {r} (h : resK x kv kp = some r) :
    (∃ v s, x = some (.ret v, s) ∧ kv v s = some r) ∨ (∃ c s, x = some (.panic c, s) ∧ kp c s = some r) := by
  cases x with
  | none => cases h
  | some y =>
    obtain ⟨e, s⟩ := y
    cases e with
    | ret v => exact .inl ⟨v, s, rfl, h⟩
    | panic c => exact .inr ⟨c, s, rfl, h⟩
section
variable (E : Env) (N : Nat)
/-- Is it a function with a body? -/
noncomputable def bodyB (f : FuncId) : Bool := match E.ft.get f with
  | some fn => fn.body.isSome && !decide (fn.name = "runtime.NumGoroutine")
  | none => false
theorem bodyB_ok {f : FuncId} (h : bodyB E f = true) (args : List Value) (s : St) : callF E f args s = some (.enter f args) := by
  unfold bodyB at h
  unfold callF
  split at h
  · rename_i fn hfn
    rw [hfn]
    simp only [Bool.and_eq_true, Bool.not_eq_true', decide_eq_false_iff_not] at h
    simp [h.1, h.2]
  · cases h
/-- A function value, taken apart: a plain function, or anything else. -/
noncomputable def fnK (x : Value) (slow : Out) (f : FuncId → List Value → List Value → Out) (fy : Nat → List Value → Out) : Out :=
  @Value.rec (fun _ => Out) (fun _ => PUnit) (fun _ => PUnit) (fun _ => none) (fun _ _ => none) (fun _ _ => none) (fun _ _ _ => none) (fun _ => none) (fun _ => none) (fun _ _ _ => none) (fun _ => none) (fun _ => none)
    (fun g b c _ _ => @Fn.rec (fun _ => Out) (fun g => f g b.toList c.toList) (fun _ => slow) (fun _ _ => slow) (fun _ _ _ _ => slow) (fun l => fy l b.toList) g)
    none (fun _ _ _ => none) none (fun _ _ => none) (fun _ _ => none) (fun _ _ => PUnit.unit) PUnit.unit (fun _ _ _ _ => PUnit.unit) x
theorem fnK_some {x : Value} {slow : Out} {f fy} {r} (h : fnK x slow f fy = some r) : slow = some r ∨ (∃ g b c, x = .func (.func g) b c ∧ f g b.toList c.toList = some r) ∨ ∃ l b c, x = .func (.yield l) b c ∧ fy l b.toList = some r := by
  cases x <;> first | cases h | skip
  rename_i g b c
  cases g <;> first | exact .inl h | exact .inr (.inl ⟨_, _, _, rfl, h⟩) | exact .inr (.inr ⟨_, _, _, rfl, h⟩)
noncomputable def enterO (p : Value → F → (F → Out) → Out) (f : FuncId) (args : List Value) (call : Call') (k : K) (t : F) (d : List Deferred) (s : St) : Out :=
  resK (call (.enter f args) s) (fun v s => p v t fun t => k t d s) (fun c s => some (.panic c, ⟨t, N, d⟩, s))
noncomputable def roundO (p : Value → F → (F → Out) → Out) (l : Nat) (args : List Value) (call : Call') (k : K) (t : F) (d : List Deferred) (s : St) : Out :=
  resK (call (.round l args) s) (fun v s => p v t fun t => k t d s) (fun c s => some (.panic c, ⟨t, N, d⟩, s))
noncomputable def scallC (o : Oper) (c : Go.Call) : Cl :=
  match c.callee with
  | .value (.func f) => match opds E c.args.toList, putC N o.dst with
    | .val gs, .mk p => match bodyB E f with
      | true => .mk fun call _ k t d s => enterO N p f (gs t) call k t d s
      | false => slowC E N o
    | _, _ => slowC E N o
  | .value x => match opd E x, opds E c.args.toList, putC N o.dst with
    | .val g, .val gs, .mk p => .mk fun call round k t d s => fnK (g t) ((slowC E N o).run call round k t d s) (fun f fi ca =>
        @Bool.rec (fun _ => Out) ((slowC E N o).run call round k t d s) (enterO N p f (fi ++ (gs t ++ ca)) call k t d s) (bodyB E f)) (fun l fi => roundO N p l (fi ++ gs t) call k t d s)
    | _, _, _ => slowC E N o
  | _ => lenC E N o c
end
section
variable {E : Env} {N : Nat}
theorem enterO_ok {o : Oper} {p} (hp : putC N o.dst = .mk p) {f : FuncId} {args : List Value} {call : Call'} {round : Option Nat} {k : K} {t d s r}
    (he : evalOp E ⟨t, N, d⟩ o s = some (.enter f args)) (h : enterO N p f args call k t d s = some r) :
    ∃ a, evalOp E ⟨t, N, d⟩ o s = some a ∧
    ((∃ t1 d1 s1, onNext call round.isSome o ⟨t, N, d⟩ s a = some (.normal, ⟨t1, N, d1⟩, s1) ∧ k t1 d1 s1 = some r) ∨ (onNext call round.isSome o ⟨t, N, d⟩ s a = some r ∧ r.1 ≠ .normal)) := by
  refine ⟨_, he, ?_⟩
  rcases resK_some h with ⟨v, s1, h1, h2⟩ | ⟨c, s1, h1, h2⟩
  · rw [putC_mk hp _ _ d] at h2
    exact .inl ⟨_, d, s1, by simp only [onNext, h1]; rw [put_fr], h2⟩
  · cases h2
    exact .inr ⟨by simp only [onNext, h1], by intro hh; cases hh⟩
theorem roundO_ok {o : Oper} {p} (hp : putC N o.dst = .mk p) {l : Nat} {args : List Value} {call : Call'} {round : Option Nat} {k : K} {t d s r}
    (he : evalOp E ⟨t, N, d⟩ o s = some (.round l args)) (h : roundO N p l args call k t d s = some r) :
    ∃ a, evalOp E ⟨t, N, d⟩ o s = some a ∧
    ((∃ t1 d1 s1, onNext call round.isSome o ⟨t, N, d⟩ s a = some (.normal, ⟨t1, N, d1⟩, s1) ∧ k t1 d1 s1 = some r) ∨ (onNext call round.isSome o ⟨t, N, d⟩ s a = some r ∧ r.1 ≠ .normal)) := by
  refine ⟨_, he, ?_⟩
  rcases resK_some h with ⟨v, s1, h1, h2⟩ | ⟨c, s1, h1, h2⟩
  · rw [putC_mk hp _ _ d] at h2
    exact .inl ⟨_, d, s1, by simp only [onNext, h1]; rw [put_fr], h2⟩
  · cases h2
    exact .inr ⟨by simp only [onNext, h1], by intro hh; cases hh⟩
theorem scallC_ok {dst c tyy pos aft gd} : OSpec E N (scallC E N ⟨dst, .call c, tyy, pos, aft, gd⟩ c) ⟨dst, .call c, tyy, pos, aft, gd⟩ := by
  unfold scallC
  split
  · rename_i f hc
    split
    · rename_i gs p hgs hp
      split
      · rename_i hb
        intro call round k t d s r h
        rw [Cl.run_mk] at h
        refine enterO_ok (o := ⟨dst, .call c, tyy, pos, aft, gd⟩) hp ?_ h
        simp only [evalOp, callO, opds_ok hgs, hc, eval, callV]
        simpa using bodyB_ok E hb (gs t) s
      · exact slowC_ok E N _
    · exact slowC_ok E N _
  · rename_i x hx hc
    split
    · rename_i g gs p hg hgs hp
      intro call round k t d s r h
      rw [Cl.run_mk] at h
      rcases fnK_some h with h | ⟨f, fi, ca, hf, h⟩ | ⟨l, fi, ca, hf, h⟩
      · exact slowC_ok E N _ call round k t d s r h
      · rcases boolRec_some h with ⟨hb, h⟩ | ⟨hb, h⟩
        · refine enterO_ok (o := ⟨dst, .call c, tyy, pos, aft, gd⟩) hp ?_ h
          simp only [evalOp, callO, opds_ok hgs, hc, opd_ok hg, callV, hf]
          rw [List.append_assoc]
          exact bodyB_ok E hb _ s
        · exact slowC_ok E N _ call round k t d s r h
      · refine roundO_ok (o := ⟨dst, .call c, tyy, pos, aft, gd⟩) hp ?_ h
        simp only [evalOp, callO, opds_ok hgs, hc, opd_ok hg, callV, hf]
    · exact slowC_ok E N _
  · exact lenC_ok

noncomputable def opF (E : Env) (N : Nat) (o : Oper) : Cl :=
  match o.op with
  | .move x | .assign x => moveC E N o.dst x
  | .fieldAddr ty x f => fieldAddrC E N o.dst ty x f
  | .load ty a => loadC E N o.dst ty a
  | .store ty a x => storeC E N o.dst ty a x
  | .alloc el => allocC E N o.dst el
  | .box el x => boxC E N o.dst el x
  | .indexAddr ty x i => indexAddrC E N o.dst ty x i
  | .binOp op ty x y _ => binC E N o op ty x y
  | .call c => scallC E N o c
  | .pick c a b => pickC E N o.dst c a b
  | .nilCheck x => nilCheckC E N o x
  | .extract x i => extractC E N o.dst x i
  | .unOp op _ x => notC E N o op x
  | .convert a b x => convC E N o a b x
  | _ => opC E N o
theorem opF_ok (o : Oper) : OSpec E N (opF E N o) o := by
  obtain ⟨dst, op, ty, pos, aft, gd⟩ := o
  cases op <;> simp only [opF]
  case move x => exact moveC_ok.1
  case assign x => exact moveC_ok.2
  case fieldAddr => exact fieldAddrC_ok
  case load => exact loadC_ok
  case store => exact storeC_ok
  case alloc => exact allocC_ok
  case box => exact boxC_ok
  case indexAddr => exact indexAddrC_ok
  case binOp => exact binC_ok
  case call => exact scallC_ok
  case pick => exact pickC_ok
  case nilCheck => exact nilCheckC_ok
  case extract => exact extractC_ok
  case unOp => exact notC_ok
  case convert => exact convC_ok
  all_goals exact opC_ok E N _
end
end Go.Eng

/- The evaluator for the kernel: append, and values built of parts. -/
namespace Go.Eng
/-! ### values built of parts -/
noncomputable def fillK (t : F) (n : Nat) (ps : List (Nat × Nat × (F → Value))) : List Value → (List Value → Out) → Out :=
  @List.rec (Nat × Nat × (F → Value)) (fun _ => List Value → (List Value → Out) → Out) (fun cs k => k cs)
    (fun p _ ih cs k => cellsOf (p.2.2 t) fun l => ifK (lenB l p.2.1) (ifK (Nat.ble (Nat.add p.1 p.2.1) n) (takeK cs p.1 fun c1 => dropK cs (Nat.add p.1 p.2.1) fun c2 => appK l c2 fun c3 => appK c1 c3 fun cs => ih cs k))) ps
noncomputable def placed (E : Env) (place : Nat → Option (Nat × Nat)) : List (Nat × Operand) → Option (List (Nat × Nat × (F → Value)))
  | [] => some []
  | (i, x) :: rest => match place i, opd E x, placed E place rest with
    | some (off, size), .val g, some ps => some ((off, size, g) :: ps)
    | _, _, _ => none

theorem foldl_set (off : Nat) : ∀ (l : List Value) (j : Nat) (cs : List Value), off + j + l.length ≤ cs.length →
    (l.zipIdx j).foldl (fun cs (x : Value × Nat) => cs.set (off + x.2) x.1) cs = cs.take (off + j) ++ l ++ cs.drop (off + j + l.length)
  | [], j, cs, h => by simp
  | a :: l, j, cs, h => by
    simp only [List.length_cons] at h
    simp only [List.zipIdx_cons, List.foldl_cons]
    rw [foldl_set off l (j + 1) _ (by simp; omega)]
    apply List.ext_getElem?
    intro i
    have hlt : off + j < cs.length := by omega
    simp only [List.getElem?_append, List.length_append, List.length_take, List.length_set, List.length_cons, List.getElem?_take, List.getElem?_drop, List.getElem?_set]
    rw [Nat.min_eq_left (by omega), Nat.min_eq_left (by omega)]
    by_cases h1 : i < off + j
    · repeat (first | rw [if_pos (by omega)] | rw [if_neg (by omega)])
    · by_cases h2 : i = off + j
      · subst h2
        repeat (first | rw [if_pos (by omega)] | rw [if_neg (by omega)])
        simp
      · by_cases h3 : i < off + j + 1 + l.length
        · repeat (first | rw [if_pos (by omega)] | rw [if_neg (by omega)])
          have : i - (off + j) = (i - (off + (j + 1))) + 1 := by omega
          rw [this, List.getElem?_cons_succ]
        · repeat (first | rw [if_pos (by omega)] | rw [if_neg (by omega)])
          congr 1; omega
theorem fill_step (place : Nat → Option (Nat × Nat)) {i off size : Nat} {v : Value} {rest : List (Nat × Value)} {cs : List Value} (hp : place i = some (off, size)) (hs : v.cells.toList.length = size) (hb : off + size ≤ cs.length) :
    Instr.fill place ⟨cs⟩ ((i, v) :: rest) = Instr.fill place ⟨cs.take off ++ (v.cells.toList ++ cs.drop (off + size))⟩ rest := by
  simp only [Instr.fill, hp]
  have hs' : v.cells.size = size := by rw [← Array.length_toList]; exact hs
  rw [if_neg (by simp [hs']; omega)]
  congr 1
  rw [← Array.foldl_toList, Array.toList_zipIdx]
  have e : ∀ (l : List (Value × Nat)) (a : Array Value), (l.foldl (fun cs (x : Value × Nat) => cs.setIfInBounds (off + x.2) x.1) a) = ⟨l.foldl (fun cs (x : Value × Nat) => cs.set (off + x.2) x.1) a.toList⟩ := by
    intro l
    induction l with
    | nil => intro a; simp
    | cons x l ih => intro a; simp only [List.foldl_cons]; rw [ih]; simp
  rw [e]
  have := foldl_set off v.cells.toList 0 cs (by simp only [Nat.add_zero]; rw [hs]; exact hb)
  simp only [Nat.add_zero, hs, List.append_assoc] at this
  simp only [this]
theorem fillK_some {E : Env} {place : Nat → Option (Nat × Nat)} {t : F} {N : Nat} {d : List Deferred} {n : Nat} : ∀ {parts : List (Nat × Operand)} {ps} {cs : List Value} {k r}, placed E place parts = some ps → fillK t n ps cs k = some r → cs.length = n →
    ∃ vs out, evalParts E ⟨t, N, d⟩ parts = some vs ∧ Instr.fill place ⟨cs⟩ vs = some out ∧ k out.toList = some r
  | [], ps, cs, k, r, hp, h, hn => by
    simp only [placed, Option.some.injEq] at hp
    subst hp
    exact ⟨[], ⟨cs⟩, rfl, rfl, h⟩
  | (i, x) :: rest, ps, cs, k, r, hp, h, hn => by
    simp only [placed] at hp
    split at hp
    · rename_i off size g ps' h1 h2 h3
      cases hp
      have h' : (cellsOf (g t) fun l => ifK (lenB l size) (ifK (Nat.ble (Nat.add off size) n) (takeK cs off fun c1 => dropK cs (Nat.add off size) fun c2 => appK l c2 fun c3 => appK c1 c3 fun cs => fillK t n ps' cs k))) = some r := h
      rw [cellsOf_eq] at h'
      replace h' := ifK_some h'; obtain ⟨hl, h'⟩ := h'
      replace h' := ifK_some h'; obtain ⟨hb, h'⟩ := h'
      have hl := lenB_eq hl
      have hb : off + size ≤ n := Nat.le_of_ble_eq_true hb
      rw [takeK_eq, dropK_eq, appK_eq, appK_eq] at h'
      obtain ⟨vs, out, q1, q2, q3⟩ := fillK_some (N := N) (d := d) h3 h' (by simp only [List.length_append, List.length_take, List.length_drop]; rw [hl]; show min off cs.length + (size + (cs.length - (off + size))) = n; omega)
      refine ⟨(i, g t) :: vs, out, by simp only [evalParts, opd_ok h2, q1], ?_, q3⟩
      rw [fill_step place h1 hl (by omega)]
      exact q2
    · cases hp

section
variable (E : Env) (N : Nat)
noncomputable def zerosL (z : Value) (m : Nat) : List Value := ((Array.range m).map ((if m = 0 then #[] else z.cells)[· % (if m = 0 then #[] else z.cells).size]!)).toList
noncomputable def buildSliceC (o : Oper) (ty : TypeId) (len : Nat) (parts : Array (Nat × Operand)) : Cl :=
  match E.under ty, putC N o.dst with
  | some (.slice elem), .mk p => match E.size elem, E.zero elem with
    | some size, some z => match placed E (fun i => some (i * size, size)) parts.toList with
      | some ps => bif Nat.ble (len * size) 16777216 then .mk fun _ _ k t d s => fillK t (len * size) ps (zerosL z (len * size)) fun l => allocK (.cells l elem l.length false true) s fun b s => p (.slice (some ⟨b, 0, some l.length⟩) len (Nat.succ len)) t fun t => k t d s
        else .bad
      | none => .bad
    | _, _ => .bad
  | _, _ => .bad
noncomputable def buildC (o : Oper) (ty : TypeId) (parts : Array (Nat × Operand)) : Cl :=
  match E.under ty, E.zero ty, putC N o.dst with
  | some (.struct fields), some z, .mk p => match fields.toList.mapM fun f => (E.size f.type).map (f.offset, ·) with
    | some places => match placed E (places[·]?) parts.toList with
      | some ps => .mk fun _ _ k t d s => fillK t z.cells.toList.length ps z.cells.toList fun l => p (.agg ⟨l⟩) t fun t => k t d s
      | none => .bad
    | none => .bad
  | _, _, _ => opC E N o
end
section
variable {E : Env} {N : Nat}
theorem buildSliceC_ok {dst ty len parts tyy pos aft gd} : OSpec E N (buildSliceC E N ⟨dst, .buildSlice ty len parts, tyy, pos, aft, gd⟩ ty len parts) ⟨dst, .buildSlice ty len parts, tyy, pos, aft, gd⟩ := by
  unfold buildSliceC
  split
  · rename_i elem p hu hp
    split
    · rename_i size z hs hz
      split
      · rename_i ps hps
        cases hb : Nat.ble (len * size) 16777216 with
        | false => exact .bad
        | true =>
          simp only [cond]
          refine .val fun call round k t d s r h => ?_
          rw [Cl.run_mk] at h
          obtain ⟨vs, out, q1, q2, q3⟩ := fillK_some (N := N) (d := d) hps h (by simp [zerosL])
          rw [allocK_eq, putC_mk hp _ _ d] at q3
          refine ⟨_, _, ?_, q3⟩
          have hb := Nat.le_of_ble_eq_true hb
          have q2' : Instr.fill (fun i => some (i * size, size)) ((Array.range (len * size)).map ((if len * size = 0 then #[] else z.cells)[· % (if len * size = 0 then #[] else z.cells).size]!)) vs = some out := by
            rw [← q2]; rfl
          simp only [evalOp, q1, buildSliceV, hu, hs, hz]
          rw [if_neg (by omega)]
          simp only [q2']
          rfl
      · exact .bad
    · exact .bad
  · exact .bad
theorem buildC_ok {dst ty parts tyy pos aft gd} : OSpec E N (buildC E N ⟨dst, .build ty parts, tyy, pos, aft, gd⟩ ty parts) ⟨dst, .build ty parts, tyy, pos, aft, gd⟩ := by
  unfold buildC
  split
  · rename_i fields z p hu hz hp
    split
    · rename_i places hpl
      split
      · rename_i ps hps
        refine .val fun call round k t d s r h => ?_
        rw [Cl.run_mk] at h
        obtain ⟨vs, out, q1, q2, q3⟩ := fillK_some (N := N) (d := d) hps h rfl
        rw [putC_mk hp _ _ d] at q3
        refine ⟨_, _, ?_, q3⟩
        simp only [evalOp, q1, buildV, hz, hu, hpl]
        rw [q2]
        rfl
      · exact .bad
    · exact .bad
  · exact opC_ok E N _
end

/-! ### append -/
section
variable (E : Env) (N : Nat)
/-- n cells from an address on. -/
noncomputable def readK (s : St) (a : Addr) (n : Nat) (k : List Value → Out) : Out :=
  addrK a fun b o sp => someK sp fun hi => partK b o n hi s k
theorem readK_some {s a n k r} (h : readK s a n k = some r) : ∃ l, readN s a n = some l ∧ k l = some r := by
  unfold readK at h
  rw [addrK_eq] at h
  obtain ⟨hi, hsp, h⟩ := someK_some h
  obtain ⟨cs, e, w, z, y, hobj, h1', h2', h⟩ := partK_some h
  exact ⟨_, by simp only [readN, hobj, hsp, h1', true_and, h2', if_true], h⟩
/-- Cells are written from an address on. -/
noncomputable def writeK (byte : Bool) (s : St) (b o hi : Nat) (l : List Value) (n : Nat) (k : St → Out) : Out :=
  getK b s fun obj => cellsK obj fun cs e _ frz ex => @Bool.rec (fun _ => Out) (ifK (lenB cs hi) (ifK (Nat.ble (Nat.add o n) hi) (ifK (allOneB l) (takeK cs o fun c1 => dropK cs (Nat.add o n) fun c2 => appK l c2 fun c3 => appK c1 c3 fun cs => rowK byte cs hi e hi false ex fun raw => putRK b raw s k)))) none frz
theorem writeK_some {byte s b o hi l n k r} (hl : l.length = n) (h : writeK byte s b o hi l n k = some r) : ∃ s', writeN s ⟨b, o, some hi⟩ l = some s' ∧ k s' = some r := by
  unfold writeK at h
  obtain ⟨obj, hobj, h⟩ := getK_some h
  replace h := cellsK_some h; obtain ⟨cs, e, w, z, y, rfl, h⟩ := h
  cases z with
  | true => cases h
  | false =>
  obtain ⟨h1, h⟩ := ifK_some h
  obtain ⟨h2, h⟩ := ifK_some h
  obtain ⟨h3, h⟩ := ifK_some h
  rw [takeK_eq, dropK_eq, appK_eq, appK_eq] at h
  have h1' := lenB_eq h1
  have h2' : o + n ≤ hi := Nat.le_of_ble_eq_true h2
  obtain ⟨raw, hraw, h⟩ := rowK_some (by simp only [List.length_append, List.length_take, List.length_drop]; rw [hl, h1']; show min o hi + (n + (hi - (o + n))) = hi; omega) h
  rw [putRK_eq, hraw] at h
  refine ⟨_, ?_, h⟩
  simp only [writeN, hobj]
  rw [if_pos ⟨h1'.symm, by rw [hl]; exact h2', allOneB_eq h3⟩, hl, List.append_assoc]
  rfl

/-- What is appended: fast where it is a slice, else by newV. -/
noncomputable def newK (argTypes : Array TypeId) (size bytes : Nat) (z : Value) (s : St) (x : Value) (k : Nat → List Value → Out) : Out :=
  let slow : Out := someK (newV E s argTypes size bytes z x) fun p => k p.1 p.2
  match argTypes[1]? with
  | some xt => match E.under xt with
    | some (.slice _) => sliceK x fun a n _ => @Option.rec Addr (fun _ => Out) slow (fun a => @Nat.rec (fun _ => Out) slow (fun m _ => ifK (Nat.ble 1 size) (readK s a (Nat.mul (Nat.succ m) size) fun l => k (Nat.succ m) l)) n) a
    | _ => slow
  | none => slow
theorem newK_some {argTypes size bytes z s x k r} (h : newK E argTypes size bytes z s x k = some r) : ∃ n l, newV E s argTypes size bytes z x = some (n, l) ∧ k n l = some r := by
  have slow : ∀ (h : (someK (newV E s argTypes size bytes z x) fun p => k p.1 p.2) = some r), ∃ n l, newV E s argTypes size bytes z x = some (n, l) ∧ k n l = some r := by
    intro h
    obtain ⟨⟨n, l⟩, h1, h2⟩ := someK_some h
    exact ⟨n, l, h1, h2⟩
  unfold newK at h
  simp only at h
  split at h
  · rename_i xt hxt
    split at h
    · rename_i el hel
      replace h := sliceK_some h; obtain ⟨a, n, c, rfl, h⟩ := h
      cases a with
      | none => exact slow h
      | some a =>
        cases n with
        | zero => exact slow h
        | succ m =>
          replace h := ifK_some h; obtain ⟨h1, h⟩ := h
          obtain ⟨l, h2, h⟩ := readK_some h
          refine ⟨m + 1, l, ?_, h⟩
          have h1 := Nat.le_of_ble_eq_true h1
          have hne : ¬ (m + 1) * size = 0 := Nat.mul_ne_zero (by omega) (by omega)
          simp only [newV, hxt, hel]
          change (firstV s size (m + 1) (.slice (some a) (m + 1) c)).map (m + 1, ·) = _
          simp only [firstV]
          rw [if_neg hne]
          have h2' : readN s a ((m + 1) * size) = some l := h2
          rw [h2']
          rfl
    · exact slow h
  · exact slow h

/-- A row at its end grows in place. -/
noncomputable def extG (elem size sLen n : Nat) (b o hi : Nat) (new : List Value) (slow : Out) (byte : Bool) (s : St) (k : Value → St → Out) (obj : AObj) : Out :=
  cellsK obj fun cs e wsz frz ex => @Bool.rec (fun _ => Out) (@Bool.rec (fun _ => Out)
    (@Bool.rec (fun _ => Out) slow
      (ifK (Nat.beq e elem) (ifK (Nat.beq o 0) (ifK (lenB cs hi) (ifK (Nat.beq (Nat.mul sLen size) hi) (ifK (allOneB new) (appK cs new fun cs => rowK byte cs (Nat.add hi (Nat.mul n size)) e wsz false false fun raw => putRK b raw s fun s => k (.slice (some ⟨b, 0, some (Nat.add hi (Nat.mul n size))⟩) (Nat.add sLen n) 0) s))))))
      (Nat.ble (Nat.succ (Nat.div (Nat.sub hi o) size)) (Nat.add sLen n)))
    slow ex) slow frz
/-- The same, where the row is kept as a number. -/
noncomputable def extR (elem size sLen n : Nat) (b o hi : Nat) (new : List Value) (slow : Out) (byte : Bool) (s : St) (k : Value → St → Out) (r : Raw) : Out :=
  @Raw.rec (fun _ => Out) (extG elem size sLen n b o hi new slow byte s k)
    (fun m len e wsz frz ex => @Bool.rec (fun _ => Out) (@Bool.rec (fun _ => Out)
      (@Bool.rec (fun _ => Out) slow
        (ifK (Nat.beq e elem) (ifK (Nat.beq o 0) (ifK (Nat.beq len hi) (ifK (Nat.beq (Nat.mul sLen size) hi)
          (@Bool.rec (fun _ => Out) (extG elem size sLen n b o hi new slow byte s k (.cells (bytesL m len) e wsz false false))
            (packN new (extG elem size sLen n b o hi new slow byte s k (.cells (bytesL m len) e wsz false false)) fun q =>
              putRK b (.bytes (Nat.add m (Nat.shiftLeft q (Nat.mul 8 len))) (Nat.add hi (Nat.mul n size)) e wsz false false) s fun s => k (.slice (some ⟨b, 0, some (Nat.add hi (Nat.mul n size))⟩) (Nat.add sLen n) 0) s)
            (@Bool.rec (fun _ => Bool) false (lenB new (Nat.mul n size)) (Nat.ble (Nat.succ m) (Nat.shiftLeft 1 (Nat.mul 8 len)))))))))
        (Nat.ble (Nat.succ (Nat.div (Nat.sub hi o) size)) (Nat.add sLen n)))
      slow ex) slow frz) r
theorem packN_eq {β : Type} {no : Option β} : ∀ {l : List Value} {k : Nat → Option β}, packN l no k = no ∨ ∃ m, l = bytesL m l.length ∧ packN l no k = k m
  | [], k => .inr ⟨0, rfl, rfl⟩
  | v :: l, k => by
    cases v <;> first | exact .inl rfl | skip
    rename_i j i
    cases j <;> first | exact .inl rfl | skip
    cases i <;> first | exact .inl rfl | skip
    rename_i c
    have e : packN (.int .u8 (.ofNat c) :: l) no k = @Bool.rec (fun _ => Option β) no (packN l no fun m => k (Nat.add c (Nat.mul 256 m))) (Nat.ble c 255) := rfl
    rw [e]
    cases hb : Nat.ble c 255 with
    | false => exact .inl rfl
    | true =>
      have hc : c ≤ 255 := Nat.le_of_ble_eq_true hb
      rcases packN_eq (l := l) (k := fun m => k (Nat.add c (Nat.mul 256 m))) with h | ⟨m, h1, h2⟩
      · exact .inl h
      · refine .inr ⟨c + 256 * m, ?_, h2⟩
        simp only [List.length_cons, bytesL]
        have e1 : (c + 256 * m) % 256 = c := by omega
        have e2 : (c + 256 * m) / 256 = m := by omega
        rw [e1, e2, ← h1]
theorem allOne_bytes : ∀ (m l : Nat), allOneB (bytesL m l) = true
  | _, 0 => rfl
  | m, l + 1 => allOne_bytes (m / 256) l
theorem lenB_bytes : ∀ (m len hi : Nat), lenB (bytesL m len) hi = Nat.beq len hi
  | _, 0, hi => by cases hi <;> rfl
  | m, len + 1, 0 => rfl
  | m, len + 1, hi + 1 => lenB_bytes (m / 256) len hi
theorem rowK_eq {byte : Bool} {l : List Value} {n : Nat} {e w z x} {b : Nat} {s : St} {k : St → Out} (hn : l.length = n) : (rowK byte l n e w z x fun raw => putRK b raw s k) = k (s.put b (.cells l e w z x)) := by
  cases byte with
  | false => exact putRK_eq b _ s k
  | true =>
    rcases packN_eq (l := l) (no := putRK b (.obj (.cells l e w z x)) s k) (k := fun m => putRK b (.bytes m n e w z x) s k) with h | ⟨m, h1, h2⟩
    · exact h.trans (putRK_eq b _ s k)
    · refine h2.trans ?_
      rw [putRK_eq]
      simp only [Raw.norm]
      rw [← hn, ← h1]
theorem extR_ok (elem size sLen n b o hi : Nat) (new : List Value) (slow : Out) (byte : Bool) (s : St) (k : Value → St → Out) : NormOk (extR elem size sLen n b o hi new slow byte s k) := by
  intro r
  cases r with
  | obj => rfl
  | bytes m len e wsz frz ex =>
    show (@Bool.rec (fun _ => Out) _ slow frz) = extG elem size sLen n b o hi new slow byte s k (.cells (bytesL m len) e wsz frz ex)
    cases frz with
    | true => rfl
    | false =>
    cases ex with
    | true => rfl
    | false =>
    have hG : extG elem size sLen n b o hi new slow byte s k (.cells (bytesL m len) e wsz false false) =
      @Bool.rec (fun _ => Out) slow
        (ifK (Nat.beq e elem) (ifK (Nat.beq o 0) (ifK (lenB (bytesL m len) hi) (ifK (Nat.beq (Nat.mul sLen size) hi) (ifK (allOneB new) (appK (bytesL m len) new fun cs => rowK byte cs (Nat.add hi (Nat.mul n size)) e wsz false false fun raw => putRK b raw s fun s => k (.slice (some ⟨b, 0, some (Nat.add hi (Nat.mul n size))⟩) (Nat.add sLen n) 0) s))))))
        (Nat.ble (Nat.succ (Nat.div (Nat.sub hi o) size)) (Nat.add sLen n)) := rfl
    show (@Bool.rec (fun _ => Out) slow (ifK (Nat.beq e elem) (ifK (Nat.beq o 0) (ifK (Nat.beq len hi) (ifK (Nat.beq (Nat.mul sLen size) hi) _)))) (Nat.ble (Nat.succ (Nat.div (Nat.sub hi o) size)) (Nat.add sLen n))) = _
    conv => rhs; rw [hG, lenB_bytes]
    cases h1 : Nat.ble (Nat.succ (Nat.div (Nat.sub hi o) size)) (Nat.add sLen n) with
    | false => rfl
    | true =>
    simp only
    cases h2 : Nat.beq e elem with
    | false => rfl
    | true =>
    cases h3 : Nat.beq o 0 with
    | false => rfl
    | true =>
    cases h4 : Nat.beq len hi with
    | false => rfl
    | true =>
    cases h5 : Nat.beq (Nat.mul sLen size) hi with
    | false => rfl
    | true =>
    have hlen : len = hi := Nat.eq_of_beq_eq_true h4
    subst hlen
    have hcells : ∀ (x : Out), x = ifK (allOneB new) (appK (bytesL m len) new fun cs => rowK byte cs (Nat.add len (Nat.mul n size)) e wsz false false fun raw => putRK b raw s fun s => k (.slice (some ⟨b, 0, some (Nat.add len (Nat.mul n size))⟩) (Nat.add sLen n) 0) s) →
        ifK true (ifK true (ifK true (ifK true x))) = ifK true (ifK true (ifK true (ifK true (ifK (allOneB new) (appK (bytesL m len) new fun cs => rowK byte cs (Nat.add len (Nat.mul n size)) e wsz false false fun raw => putRK b raw s fun s => k (.slice (some ⟨b, 0, some (Nat.add len (Nat.mul n size))⟩) (Nat.add sLen n) 0) s))))) := by
      intro x hx; rw [hx]
    have hGv : extG elem size sLen n b o len new slow byte s k (.cells (bytesL m len) e wsz false false) = ifK (allOneB new) (appK (bytesL m len) new fun cs => rowK byte cs (Nat.add len (Nat.mul n size)) e wsz false false fun raw => putRK b raw s fun s => k (.slice (some ⟨b, 0, some (Nat.add len (Nat.mul n size))⟩) (Nat.add sLen n) 0) s) := by
      rw [hG, h1, h2, h3, lenB_bytes, h4, h5]; rfl
    apply hcells
    cases h6 : Nat.ble (Nat.succ m) (Nat.shiftLeft 1 (Nat.mul 8 len)) with
    | false => exact hGv
    | true =>
      cases h7 : lenB new (Nat.mul n size) with
      | false => exact hGv
      | true =>
      have hnew : new.length = n * size := lenB_eq h7
      have hm : m < 256 ^ len := by
        have := Nat.le_of_ble_eq_true h6
        have e : Nat.shiftLeft 1 (Nat.mul 8 len) = 256 ^ len := by
          show 1 <<< (8 * len) = _
          rw [Nat.one_shiftLeft, Nat.pow_mul]
        rw [e] at this
        exact this
      rcases packN_eq (l := new) (no := extG elem size sLen n b o len new slow byte s k (.cells (bytesL m len) e wsz false false)) (k := fun q => putRK b (.bytes (Nat.add m (Nat.shiftLeft q (Nat.mul 8 len))) (Nat.add len (Nat.mul n size)) e wsz false false) s fun s => k (.slice (some ⟨b, 0, some (Nat.add len (Nat.mul n size))⟩) (Nat.add sLen n) 0) s) with h | ⟨q, hq, h⟩
      · exact h.trans hGv
      · refine h.trans ?_
        have hone : allOneB new = true := by rw [hq]; exact allOne_bytes _ _
        rw [hone]
        show _ = appK _ _ _
        rw [appK_eq, rowK_eq (by simp only [List.length_append, bytesL_len, hnew]; rfl), putRK_eq]
        simp only [Raw.norm]
        have e : Nat.add m (Nat.shiftLeft q (Nat.mul 8 len)) = m + 256 ^ len * q := by
          show m + q <<< (8 * len) = _
          rw [Nat.shiftLeft_eq, Nat.pow_mul, Nat.mul_comm]
        have hb := bytesL_append m len q new.length hm
        rw [← hq] at hb
        rw [e, ← hb, hnew]
        rfl

noncomputable def growK (elem size : Nat) (s : St) (base : Option Addr) (sLen cp n : Nat) (new : List Value) (slow : Out) (byte : Bool) (k : Value → St → Out) : Out :=
  @Option.rec Addr (fun _ => Out)
    (@Nat.rec (fun _ => Out) slow (fun m _ => @Nat.rec (fun _ => Out) (ifK (Nat.beq sLen 0) (rowK byte new (Nat.mul n size) elem (Nat.mul n size) false false fun raw => allocRK raw s fun b s => k (.slice (some ⟨b, 0, some (Nat.mul n size)⟩) (Nat.succ m) 0) s)) (fun _ _ => none) cp) n)
    (fun a => addrK a fun b o sp => someK sp fun hi => @Nat.rec (fun _ => Out) slow (fun m _ => @Nat.rec (fun _ => Out)
        (rawK b s (extR elem size sLen n b o hi new slow byte s k) (extR_ok elem size sLen n b o hi new slow byte s k))
        (fun c _ => @Bool.rec (fun _ => Out) slow (writeK byte s b (Nat.add o (Nat.mul sLen size)) hi new (Nat.mul n size) fun s => k (.slice (some ⟨b, o, some hi⟩) (Nat.add sLen n) (Nat.succ c)) s) (Nat.ble (Nat.add sLen n) c)) cp) n)
    base
theorem growK_some {elem size s base sLen cp n new slow byte k r} (hnew : new.length = n * size) (hsz : 0 < size) (h : growK elem size s base sLen cp n new slow byte k = some r) :
    slow = some r ∨ ∃ v s', growV s elem size base sLen cp n new = some (v, s') ∧ k v s' = some r := by
  unfold growK at h
  cases base with
  | none =>
    cases n with
    | zero => exact .inl h
    | succ m =>
      cases cp with
      | succ c => cases h
      | zero =>
        replace h := ifK_some h; obtain ⟨h1, h⟩ := h
        have h1 := Nat.eq_of_beq_eq_true h1
        obtain ⟨raw, hraw, h⟩ := rowK_some (n := Nat.mul (m + 1) size) hnew h
        rw [allocRK_eq, hraw] at h
        refine .inr ⟨_, _, ?_, h⟩
        simp only [growV, Nat.add_one_ne_zero, if_false, if_true, freshV, h1, St.row, hnew]
        rfl
  | some a =>
    simp only at h
    rw [addrK_eq] at h
    obtain ⟨hi, hsp, h⟩ := someK_some h
    cases n with
    | zero => exact .inl h
    | succ m =>
      cases cp with
      | zero =>
        simp only at h
        obtain ⟨obj, hobj, h⟩ := rawK_some h
        replace h := cellsK_some (h : cellsK obj _ = some r); obtain ⟨cs, e, w, z, y, rfl, h⟩ := h
        cases z with
        | true => exact .inl h
        | false =>
        cases y with
        | true => exact .inl h
        | false =>
        simp only at h
        rcases boolRec_some h with ⟨hb, h⟩ | ⟨hb, h⟩
        · replace h := ifK_some h; obtain ⟨h1, h⟩ := h
          replace h := ifK_some h; obtain ⟨h2, h⟩ := h
          replace h := ifK_some h; obtain ⟨h3, h⟩ := h
          replace h := ifK_some h; obtain ⟨h4, h⟩ := h
          replace h := ifK_some h; obtain ⟨h5, h⟩ := h
          have h1 := Nat.eq_of_beq_eq_true h1
          have h2 := Nat.eq_of_beq_eq_true h2
          have h3 := lenB_eq h3
          have h4 : sLen * size = hi := Nat.eq_of_beq_eq_true h4
          have hb : (hi - a.off) / size < sLen + (m + 1) := Nat.le_of_ble_eq_true hb
          rw [appK_eq] at h
          obtain ⟨raw, hraw, h⟩ := rowK_some (by simp only [List.length_append, hnew, h3]; rfl) h
          rw [putRK_eq, hraw] at h
          refine .inr ⟨_, _, ?_, h⟩
          have hoc : openCap s a elem size = some ((hi - a.off) / size) := by
            simp only [openCap, hobj, hsp]
            rw [if_pos ⟨h1, hsz, by omega⟩]
          simp only [growV, hoc, Nat.add_one_ne_zero, if_false]
          rw [if_neg (by omega)]
          simp only [hobj]
          rw [if_pos ⟨h2, by rw [hsp, h3], by rw [h4, h3], allOneB_eq h5⟩]
          rw [hnew, h3]
          rfl
        · exact .inl h
      | succ c =>
        simp only at h
        rcases boolRec_some h with ⟨hb, h⟩ | ⟨hb, h⟩
        · obtain ⟨s', h1, h⟩ := writeK_some hnew h
          have hb : sLen + (m + 1) ≤ c := Nat.le_of_ble_eq_true hb
          refine .inr ⟨_, _, ?_, h⟩
          have ha : aadd a (sLen * size) = ⟨a.block, a.off + sLen * size, some hi⟩ := by cases a; simp only at hsp; subst hsp; rfl
          have ha2 : (⟨a.block, a.off, some hi⟩ : Addr) = a := by cases a; simp only at hsp; subst hsp; rfl
          simp only [growV, Nat.add_one_ne_zero, if_false]
          rw [if_pos hb, ha, ha2]
          have h1' : writeN s ⟨a.block, a.off + sLen * size, some hi⟩ new = some s' := h1
          rw [h1']
          rfl
        · exact .inl h

/-- Is it the type of bytes? -/
noncomputable def byteT (t : TypeId) : Bool := match E.under t with
  | some (.int .u8) => true
  | _ => false
noncomputable def appC (o : Oper) (c : Go.Call) : Cl :=
  match c.callee, c.args.toList, c.argTypes[0]?, putC N o.dst with
  | .builtin .append, [x, y], some ty, .mk p => match E.under ty, opd E x, opd E y with
    | some (.slice elem), .val g, .val gy => match E.size elem, (E.tt.get elem).map (·.bytes), E.zero elem with
      | some size, some bytes, some z => bif (Nat.ble 1 size && Nat.ble 1 bytes) then
          .mk fun call round k t d s => newK E c.argTypes size bytes z s (gy t) fun n new => sliceK (g t) fun base sLen cp => ifK (lenB new (Nat.mul n size)) (ifK (Nat.ble ((4 * (sLen + n) + 4000) * bytes) 70368744177664)
            (growK elem size s base sLen cp n new ((slowC E N o).run call round k t d s) (byteT E elem) fun v s => p v t fun t => k t d s))
        else slowC E N o
      | _, _, _ => slowC E N o
    | _, _, _ => slowC E N o
  | _, _, _, _ => scallC E N o c
end
section
variable {E : Env} {N : Nat}
theorem appC_ok {dst c tyy pos aft gd} : OSpec E N (appC E N ⟨dst, .call c, tyy, pos, aft, gd⟩ c) ⟨dst, .call c, tyy, pos, aft, gd⟩ := by
  unfold appC
  split
  · rename_i x y ty p hc ha ht hp
    split
    · rename_i elem g gy hu hg hgy
      split
      · rename_i size bytes z hs hb hz
        cases hn : (Nat.ble 1 size && Nat.ble 1 bytes) with
        | false => exact slowC_ok E N _
        | true =>
          simp only [Bool.and_eq_true] at hn
          have hn1 := Nat.le_of_ble_eq_true hn.1
          have hn2 := Nat.le_of_ble_eq_true hn.2
          simp only [cond]
          intro call round k t d s r h
          rw [Cl.run_mk] at h
          obtain ⟨n, new, h1, h⟩ := newK_some E h
          obtain ⟨base, sLen, cp, h2, h⟩ := sliceK_some h
          obtain ⟨h3, h⟩ := ifK_some h
          obtain ⟨h4, h⟩ := ifK_some h
          have h3 : new.length = n * size := lenB_eq h3
          have h4 := Nat.le_of_ble_eq_true h4
          rcases growK_some h3 hn1 h with h | ⟨v, s', h5, h⟩
          · exact slowC_ok E N _ call round k t d s r h
          · rw [putC_mk hp _ _ d] at h
            have he : evalOp E ⟨t, N, d⟩ ⟨dst, .call c, tyy, pos, aft, gd⟩ s = some (.val v s') := by
              simp only [evalOp, callO, ha, evals, opd_ok hg, opd_ok hgy, hc, builtinV, appendV, ht, h2, hu, hs, hb, hz, h1]
              rw [if_neg (by simp only [h3, ne_eq, not_true_eq_false, false_or]; omega), h5]
              rfl
            exact ⟨_, he, .inl ⟨_, d, s', by simp only [onNext]; rw [put_fr], h⟩⟩
      · exact slowC_ok E N _
    · exact slowC_ok E N _
  · exact scallC_ok

noncomputable def opG (E : Env) (N : Nat) (o : Oper) : Cl :=
  match o.op with
  | .call c => appC E N o c
  | .buildSlice t len parts => buildSliceC E N o t len parts
  | .build t parts => buildC E N o t parts
  | _ => opF E N o
theorem opG_ok (o : Oper) : OSpec E N (opG E N o) o := by
  obtain ⟨dst, op, ty, pos, aft, gd⟩ := o
  cases op <;> simp only [opG]
  case call => exact appC_ok
  case buildSlice => exact buildSliceC_ok
  case build => exact buildC_ok
  all_goals exact opF_ok _
end
end Go.Eng
