/- feed.row.digits: the loop that lays, at any row. -/
import Derived.Test.YtkgapncajjafoaaGreatDoorDig
set_option linter.all false
set_option maxRecDepth 100000
namespace Go.Proofs.YtkgapncajjafoaaGreatDoor
open Go Go.Eng
section
variable {E : Env}
theorem stageF_step {ops : Array Oper} {k i l : Nat} {rest : List (Nat × Nat × Nat)} {fr : Fr} {s s' : St} {made : List (Nat × Nat)} {o : Oper} {v : Value}
    (ho : ops[i]? = some o) (hw : wantedA ops fr o = true) (hc : cls E o = 0) (he : evalOp E fr o s = some (.val v s')) :
    stageF E ops k ((i, k, l) :: rest) fr s made = stageF E ops k rest (fr.put o.dst v) s made := by
  have : Nat.beq k k = true := by simp
  simp only [stageF, this, if_true, ho, hw, he, hc]
theorem stageF_made {ops : Array Oper} {k i l : Nat} {rest : List (Nat × Nat × Nat)} {fr : Fr} {s s' : St} {made : List (Nat × Nat)} {o : Oper} {v : Value} {obj : AObj}
    (ho : ops[i]? = some o) (hw : wantedA ops fr o = true) (hc : cls E o = 1) (he : evalOp E fr o s = some (.val v s')) (hx : s'.h.get s.nx = some obj) :
    stageF E ops k ((i, k, l) :: rest) fr s made = stageF E ops k rest (fr.put o.dst v) (s.alloc obj) ((i, s.nx) :: made) := by
  have : Nat.beq k k = true := by simp
  simp only [stageF, this, if_true, ho, hw, he, hc, hx]
theorem eqI_refl (a : Int) : eqI a a = true := by cases a <;> simp [eqI]
theorem againF_step {ops : Array Oper} {k i est lst : Nat} {rest : List (Nat × Nat × Nat)} {fr : Fr} {s s' : St} {made : List (Nat × Nat)} {o : Oper} {v : Value} {d : Nat}
    (ho : ops[i]? = some o) (hw : wantedA ops fr o = true) (hc : cls E o = 0) (he : evalOp E fr o s = some (.val v s')) (hd : o.dst = some d) (hv : fr.tmp d = v) (hq : veq v v = true)
    (h : againF E ops k fr s made rest = true) : againF E ops k fr s made ((i, est, lst) :: rest) = true := by
  simp only [againF, ho, hw, againO, hc, he, same, hd, hv, hq, if_true, Bool.or_true, Bool.and_eq_true, h, and_true]
  split <;> rfl
theorem againF_made {ops : Array Oper} {k i est lst b : Nat} {rest : List (Nat × Nat × Nat)} {fr : Fr} {s s' : St} {made : List (Nat × Nat)} {o : Oper} {v : Value} {d : Nat} {obj : AObj}
    (ho : ops[i]? = some o) (hw : wantedA ops fr o = true) (hc : cls E o = 1) (hm : made.find? (fun p => Nat.beq p.1 i) = some (i, b)) (hg : s.h.get b = some obj)
    (he : evalOp E fr o ⟨s.h, b⟩ = some (.val v s')) (hg' : s'.h.get b = some obj) (hd : o.dst = some d) (hv : fr.tmp d = v) (hq : veq v v = true) (hqo : oeq obj obj = true)
    (h : againF E ops k fr s made rest = true) : againF E ops k fr s made ((i, est, lst) :: rest) = true := by
  simp only [againF, ho, hw, againO, hc, hm, hg, he, hg', hqo, same, hd, hv, hq, if_true, Bool.or_true, Bool.and_eq_true, h, and_true, Bool.true_and]
  split <;> rfl
theorem againF_past {ops : Array Oper} {k i est lst : Nat} {rest : List (Nat × Nat × Nat)} {fr : Fr} {s : St} {made : List (Nat × Nat)}
    (hn : (Nat.ble est k && Nat.ble k lst) = false) (h : againF E ops k fr s made rest = true) : againF E ops k fr s made ((i, est, lst) :: rest) = true := by
  simp only [againF, hn, h]; rfl
end
/-! the loop's pieces -/
noncomputable def dRest : Code := seqR (seqR d0)
noncomputable def dHead : Code := seqL d0
noncomputable def lLoop : Code := inB (seqR dRest)
noncomputable def lOps : Array Oper := opsOf (inB' (seqL (seqR lLoop)))
  where inB' : Code → Code | .block _ c => c | c => c
noncomputable def lNext : Code := seqR (seqR lLoop)
noncomputable def lTest : Code := seqL (seqL lLoop)
theorem d0_eq : d0 = .seq dHead (.seq (.block 0 (.loop dLoop)) dRest) := by kernel_rfl
theorem lLoop_eq : lLoop = .seq (.seq lTest (.cond (.tmp 24) .skip (.exit 2))) (.seq (.block 3 (.region 6 lOps true)) lNext) := by kernel_rfl
theorem dRest_eq : dRest = .seq (seqL dRest) (.block 2 (.loop lLoop)) := by kernel_rfl
theorem lPlan : plan EB lOps = ⟨[12, 15], [(0, 0, 1), (1, 0, 0), (2, 0, 0), (3, 0, 0), (4, 0, 0), (5, 0, 0), (6, 0, 0), (7, 0, 0), (8, 0, 0), (9, 0, 0), (10, 0, 0), (11, 0, 0), (13, 1, 1), (14, 1, 1)], true⟩ := by kernel_rfl
def hexS : ByteArray := "0123456789abcdef".toUTF8
noncomputable def lo (i : Nat) : Oper := (lOps[i]?).getD default
theorem lg0 : lOps[0]? = some (lo 0) := by kernel_rfl
theorem lp0 : (lo 0).op = .move (.tmp 0) := by kernel_rfl
theorem ld0 : (lo 0).dst = some 27 := by kernel_rfl
theorem lw0 (fr : Fr) : wantedA lOps fr (lo 0) = true := by kernel_rfl
theorem lc0 : cls EB (lo 0) = 0 := by kernel_rfl
theorem lg1 : lOps[1]? = some (lo 1) := by kernel_rfl
theorem lp1 : (lo 1).op = .move (.tmp 0) := by kernel_rfl
theorem ld1 : (lo 1).dst = some 28 := by kernel_rfl
theorem lw1 (fr : Fr) : wantedA lOps fr (lo 1) = true := by kernel_rfl
theorem lc1 : cls EB (lo 1) = 0 := by kernel_rfl
theorem lg2 : lOps[2]? = some (lo 2) := by kernel_rfl
theorem lp2 : (lo 2).op = .nilCheck (.tmp 28) := by kernel_rfl
theorem ld2 : (lo 2).dst = some 29 := by kernel_rfl
theorem lw2 (fr : Fr) : wantedA lOps fr (lo 2) = true := by kernel_rfl
theorem lc2 : cls EB (lo 2) = 0 := by kernel_rfl
theorem lg3 : lOps[3]? = some (lo 3) := by kernel_rfl
theorem lp3 : (lo 3).op = .fieldAddr 69 (.tmp 29) 0 := by kernel_rfl
theorem ld3 : (lo 3).dst = some 30 := by kernel_rfl
theorem lw3 (fr : Fr) : wantedA lOps fr (lo 3) = true := by kernel_rfl
theorem lc3 : cls EB (lo 3) = 0 := by kernel_rfl
theorem lg4 : lOps[4]? = some (lo 4) := by kernel_rfl
theorem lp4 : (lo 4).op = .load 34 (.tmp 30) := by kernel_rfl
theorem ld4 : (lo 4).dst = some 31 := by kernel_rfl
theorem lw4 (fr : Fr) : wantedA lOps fr (lo 4) = true := by kernel_rfl
theorem lc4 : cls EB (lo 4) = 0 := by kernel_rfl
theorem lg5 : lOps[5]? = some (lo 5) := by kernel_rfl
theorem lp5 : (lo 5).op = .move (.tmp 1) := by kernel_rfl
theorem ld5 : (lo 5).dst = some 32 := by kernel_rfl
theorem lw5 (fr : Fr) : wantedA lOps fr (lo 5) = true := by kernel_rfl
theorem lc5 : cls EB (lo 5) = 0 := by kernel_rfl
theorem lg6 : lOps[6]? = some (lo 6) := by kernel_rfl
theorem lp6 : (lo 6).op = .move (.tmp 7) := by kernel_rfl
theorem ld6 : (lo 6).dst = some 33 := by kernel_rfl
theorem lw6 (fr : Fr) : wantedA lOps fr (lo 6) = true := by kernel_rfl
theorem lc6 : cls EB (lo 6) = 0 := by kernel_rfl
theorem lg7 : lOps[7]? = some (lo 7) := by kernel_rfl
theorem lp7 : (lo 7).op = .binOp .mul 3 (.const (.int .i64 4)) (.tmp 33) 3 := by kernel_rfl
theorem ld7 : (lo 7).dst = some 34 := by kernel_rfl
theorem lw7 (fr : Fr) : wantedA lOps fr (lo 7) = true := by kernel_rfl
theorem lc7 : cls EB (lo 7) = 0 := by kernel_rfl
theorem lg8 : lOps[8]? = some (lo 8) := by kernel_rfl
theorem lp8 : (lo 8).op = .binOp .shr 22 (.tmp 32) (.tmp 34) 3 := by kernel_rfl
theorem ld8 : (lo 8).dst = some 35 := by kernel_rfl
theorem lw8 (fr : Fr) : wantedA lOps fr (lo 8) = true := by kernel_rfl
theorem lc8 : cls EB (lo 8) = 0 := by kernel_rfl
theorem lg9 : lOps[9]? = some (lo 9) := by kernel_rfl
theorem lp9 : (lo 9).op = .binOp .and 22 (.tmp 35) (.const (.int .u64 15)) 22 := by kernel_rfl
theorem ld9 : (lo 9).dst = some 36 := by kernel_rfl
theorem lw9 (fr : Fr) : wantedA lOps fr (lo 9) = true := by kernel_rfl
theorem lc9 : cls EB (lo 9) = 0 := by kernel_rfl
theorem lg10 : lOps[10]? = some (lo 10) := by kernel_rfl
theorem lp10 : (lo 10).op = .index 9 (.const (.string hexS)) (.tmp 36) := by kernel_rfl
theorem ld10 : (lo 10).dst = some 37 := by kernel_rfl
theorem lw10 (fr : Fr) : wantedA lOps fr (lo 10) = true := by kernel_rfl
theorem lc10 : cls EB (lo 10) = 0 := by kernel_rfl
theorem lg11 : lOps[11]? = some (lo 11) := by kernel_rfl
theorem lp11 : (lo 11).op = .buildSlice 34 1 #[(0, .tmp 37)] := by kernel_rfl
theorem ld11 : (lo 11).dst = some 38 := by kernel_rfl
theorem lw11 (fr : Fr) : wantedA lOps fr (lo 11) = true := by kernel_rfl
theorem lc11 : cls EB (lo 11) = 1 := by kernel_rfl
theorem lg12 : lOps[12]? = some (lo 12) := by kernel_rfl
theorem lp12 : (lo 12).op = .call ⟨.builtin .append, #[.tmp 31, .tmp 38], #[34, 34]⟩ := by kernel_rfl
theorem ld12 : (lo 12).dst = some 39 := by kernel_rfl
theorem lw12 (fr : Fr) : wantedA lOps fr (lo 12) = true := by kernel_rfl
theorem lc12 : cls EB (lo 12) = 2 := by kernel_rfl
theorem lg13 : lOps[13]? = some (lo 13) := by kernel_rfl
theorem lp13 : (lo 13).op = .nilCheck (.tmp 27) := by kernel_rfl
theorem ld13 : (lo 13).dst = some 40 := by kernel_rfl
theorem lw13 (fr : Fr) : wantedA lOps fr (lo 13) = true := by kernel_rfl
theorem lc13 : cls EB (lo 13) = 0 := by kernel_rfl
theorem lg14 : lOps[14]? = some (lo 14) := by kernel_rfl
theorem lp14 : (lo 14).op = .fieldAddr 69 (.tmp 40) 0 := by kernel_rfl
theorem ld14 : (lo 14).dst = some 41 := by kernel_rfl
theorem lw14 (fr : Fr) : wantedA lOps fr (lo 14) = true := by kernel_rfl
theorem lc14 : cls EB (lo 14) = 0 := by kernel_rfl
theorem lg15 : lOps[15]? = some (lo 15) := by kernel_rfl
theorem lp15 : (lo 15).op = .store 34 (.tmp 41) (.tmp 39) := by kernel_rfl
theorem ld15 : (lo 15).dst = none := by kernel_rfl
theorem lw15 (fr : Fr) : wantedA lOps fr (lo 15) = true := by kernel_rfl
theorem lc15 : cls EB (lo 15) = 2 := by kernel_rfl
section
variable {fr : Fr} {s : St}
theorem le_move {i j : Nat} (h : (lo i).op = .move (.tmp j)) : evalOp EB fr (lo i) s = some (.val (fr.tmp j) s) := by
  unfold evalOp; rw [h]; rfl
theorem le_nil {i j : Nat} {a : Addr} (h : (lo i).op = .nilCheck (.tmp j)) (hv : fr.tmp j = .pointer (some a)) : evalOp EB fr (lo i) s = some (.val (.pointer (some a)) s) := by
  unfold evalOp; rw [h]; simp only [eval, hv]
theorem u69 : (EB.under 69).map (fun | .struct f => (f[0]?).map (fun x => (x.type, x.offset)) | _ => none) = some (some (34, 0)) := by kernel_rfl
theorem le_field {i j : Nat} {a : Addr} (h : (lo i).op = .fieldAddr 69 (.tmp j) 0) (hv : fr.tmp j = .pointer (some a)) : evalOp EB fr (lo i) s = some (.val (.pointer (some ⟨a.block, a.off, a.spot⟩)) s) := by
  unfold evalOp; rw [h]; simp only [eval, hv]
  have : fieldAddrV EB 69 (.pointer (some ⟨a.block, a.off, a.spot⟩)) 0 = some (.pointer (some ⟨a.block, a.off + 0, a.spot⟩)) := by kernel_rfl
  have e : a = ⟨a.block, a.off, a.spot⟩ := rfl
  rw [e, this]; rfl
theorem le_mul {k : Nat} (hk : k < 16) (hv : fr.tmp 33 = .int .i64 (.ofNat k)) : evalOp EB fr (lo 7) s = some (.val (.int .i64 (.ofNat (4 * k))) s) := by
  unfold evalOp; rw [lp7]; simp only [eval, flat, if_true, hv, binV, numOp]
  have : ∀ k < 16, wrapI .i64 ((4 : Int) * Int.ofNat k) = .ofNat (4 * k) := by decide
  simp only [ne_eq, not_true_eq_false, if_false]
  rw [this k hk]
theorem le_shr {n k : Nat} (hk : k < 64) (h1 : fr.tmp 32 = .int .u64 (.ofNat n)) (h2 : fr.tmp 34 = .int .i64 (.ofNat k)) : evalOp EB fr (lo 8) s = some (.val (.int .u64 (.ofNat (n / 2 ^ k))) s) := by
  unfold evalOp; rw [lp8]; simp only [eval, h1, h2, binV, numOp]
  have : min k IntKind.u64.bits = k := Nat.min_eq_left (by show k ≤ 64; omega)
  rw [this]
theorem le_and {n : Nat} (h1 : fr.tmp 35 = .int .u64 (.ofNat n)) (hn : n < 2 ^ 64) : evalOp EB fr (lo 9) s = some (.val (.int .u64 (.ofNat (n % 16))) s) := by
  unfold evalOp; rw [lp9]; simp only [eval, h1, flat, if_true, binV, numOp]
  have e : wrapI .u64 (.ofNat (Nat.land (modI (modK .u64) (.ofNat n)) (modI (modK .u64) 15))) = .ofNat (n % 16) := by
    have e1 : modI (modK .u64) (15 : Int) = 15 := by decide
    have e2 : modI (modK .u64) (Int.ofNat n) = n := Nat.mod_eq_of_lt (by show n < 18446744073709551616; omega)
    have e3 : Nat.land n 15 = n % 16 := Nat.and_two_pow_sub_one_eq_mod n 4
    rw [e1, e2, e3]
    show Int.ofNat (n % 16 % 18446744073709551616) = _
    congr 1
    omega
  simp only [ne_eq, not_true_eq_false, if_false]
  rw [e]
/-- A hex digit's byte. -/
def hexD (c : Nat) : Nat := if c < 10 then 48 + c else 87 + c
theorem hexAll : (List.range 16).map (fun c => indexV EB 9 (.string hexS) (.int .u64 (.ofNat c))) = (List.range 16).map (fun c => some (.int .u8 (.ofNat (hexD c)))) := by kernel_rfl
theorem le_index {c : Nat} (hc : c < 16) (h1 : fr.tmp 36 = .int .u64 (.ofNat c)) : evalOp EB fr (lo 10) s = some (.val (.int .u8 (.ofNat (hexD c))) s) := by
  unfold evalOp; rw [lp10]; simp only [eval, h1, flat, if_true]
  have this : ∀ c < 16, indexV EB 9 (.string hexS) (.int .u64 (.ofNat c)) = some (.int .u8 (.ofNat (hexD c))) := fun c hc => List.map_inj_left.1 hexAll c (List.mem_range.2 hc)
  rw [this c hc]
theorem a34 : EB.isAgg 34 = some false := by kernel_rfl
theorem z34 : EB.size 34 = some 1 := by kernel_rfl
theorem le_load {r : Nat} {x : Value} {e : TypeId} {z f : Bool} (h1 : fr.tmp 30 = .pointer (some ⟨r, 0, some 1⟩)) (hg : s.h.get r = some (.cells [x] e 1 f z)) : evalOp EB fr (lo 4) s = some (.val x s) := by
  unfold evalOp; rw [lp4]; simp only [eval, h1]
  have : loadV EB s 34 ⟨r, 0, some 1⟩ = some x := by
    unfold loadV
    rw [a34, z34]
    simp [readN, hg]
  rw [this]
theorem le_slice {c : Nat} (h1 : fr.tmp 37 = .int .u8 (.ofNat c)) : evalOp EB fr (lo 11) s = some (.val (.slice (some ⟨s.nx, 0, some 1⟩) 1 2) (s.alloc (.cells [.int .u8 (.ofNat c)] 5 1 false true))) := by
  unfold evalOp; rw [lp11]; simp only [evalParts, eval, h1]
  have : buildSliceV EB s 34 1 [(0, .int .u8 (.ofNat c))] = some (.slice (some ⟨s.nx, 0, some 1⟩) 1 2, s.alloc (.cells [.int .u8 (.ofNat c)] 5 1 false true)) := by kernel_rfl
  rw [this]
theorem u34 : EB.under 34 = some (.slice 5) := by kernel_rfl
theorem z5 : EB.size 5 = some 1 := by kernel_rfl
theorem b5 : (EB.tt.get 5).map (·.bytes) = some 1 := by kernel_rfl
theorem v5 : EB.zero 5 = some (.int .u8 0) := by kernel_rfl
theorem le_store {r b : Nat} {x : Value} {e w m : Nat} {ex : Bool} (h1 : fr.tmp 41 = .pointer (some ⟨r, 0, some 1⟩)) (h2 : fr.tmp 39 = .slice (some ⟨b, 0, some m⟩) m 0) (hg : s.h.get r = some (.cells [x] e w false ex)) :
    evalOp EB fr (lo 15) s = some (.skip (s.put r (.cells [.slice (some ⟨b, 0, some m⟩) m 0] e 1 false ex))) := by
  unfold evalOp; rw [lp15]; simp only [eval, h1, h2]
  have : storeV EB s 34 ⟨r, 0, some 1⟩ (.slice (some ⟨b, 0, some m⟩) m 0) = some (s.put r (.cells [.slice (some ⟨b, 0, some m⟩) m 0] e 1 false ex)) := by
    unfold storeV
    rw [z34]
    simp [Value.cells, writeN, hg, oneCell]
  rw [this]
theorem newV_one {q c : Nat} (hg : s.h.get q = some (.cells [.int .u8 (.ofNat c)] 5 1 false true)) : newV EB s #[34, 34] 1 1 (.int .u8 0) (.slice (some ⟨q, 0, some 1⟩) 1 2) = some (1, [.int .u8 (.ofNat c)]) := by
  unfold newV
  have e1 : now (Builtin.lenOf (.slice (some ⟨q, 0, some 1⟩) 1 2)) = some 1 := rfl
  have e2 : (#[34, 34] : Array TypeId)[1]? = some 34 := rfl
  simp only [u34, e1, e2]
  simp [firstV, readN, hg]
/-- append, by what it appends and how it grows. -/
theorem app_one {q c m : Nat} {base : Option Addr} {v : Value} {s1 : St} (hm : m < 1000) (hg : s.h.get q = some (.cells [.int .u8 (.ofNat c)] 5 1 false true))
    (hv : growV s 5 1 base m 0 1 [.int .u8 (.ofNat c)] = some (v, s1)) : appendV EB s #[34, 34] [.slice base m 0, .slice (some ⟨q, 0, some 1⟩) 1 2] = some (v, s1) := by
  unfold appendV
  have e2 : (#[34, 34] : Array TypeId)[0]? = some 34 := rfl
  simp only [e2, u34, z5, b5, v5, newV_one hg]
  have : ¬ (1 = 0 ∨ 1 = 0 ∨ [Value.int .u8 (.ofNat c)].length ≠ 1 * 1 ∨ (4 * (m + 1) + 4000) * 1 > 2 ^ 46) := by
    simp; omega
  rw [if_neg this, hv]
theorem grow_nil {c : Nat} : growV s 5 1 none 0 0 1 [.int .u8 (.ofNat c)] = some (.slice (some ⟨s.nx, 0, some 1⟩) 1 0, s.alloc (.cells [.int .u8 (.ofNat c)] 5 1 false false)) := by
  simp [growV, freshV, St.row]
theorem grow_some {b m w c : Nat} {cs : List Value} (hb : s.h.get b = some (.cells cs 5 w false false)) (hl : cs.length = m) :
    growV s 5 1 (some ⟨b, 0, some m⟩) m 0 1 [.int .u8 (.ofNat c)] = some (.slice (some ⟨b, 0, some (m + 1)⟩) (m + 1) 0, s.put b (.cells (cs ++ [.int .u8 (.ofNat c)]) 5 w false false)) := by
  simp [growV, openCap, hb, hl, oneCell]
theorem le_append {q c m : Nat} {base : Option Addr} {v : Value} {s1 : St} (hm : m < 1000) (h1 : fr.tmp 31 = .slice base m 0) (h2 : fr.tmp 38 = .slice (some ⟨q, 0, some 1⟩) 1 2) (hg : s.h.get q = some (.cells [.int .u8 (.ofNat c)] 5 1 false true))
    (hv : growV s 5 1 base m 0 1 [.int .u8 (.ofNat c)] = some (v, s1)) : evalOp EB fr (lo 12) s = some (.val v s1) := by
  unfold evalOp; rw [lp12]; simp only [callO, evals, eval, h1, h2, builtinV, app_one hm hg hv, Option.map_some]
end
end Go.Proofs.YtkgapncajjafoaaGreatDoor
