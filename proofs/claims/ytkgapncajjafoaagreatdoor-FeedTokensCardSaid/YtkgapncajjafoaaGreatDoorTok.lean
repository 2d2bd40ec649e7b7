/- feed.Token: the walk. Printed by a program. -/
import Derived.Test.YtkgapncajjafoaaGreatDoorRow3
import Derived.Test.YtkgapncajjafoaaGreatDoorMore
import Derived.Test.YtkgapncajjafoaaGreatDoorLay
set_option linter.all false
set_option maxRecDepth 100000
namespace Go.Proofs.YtkgapncajjafoaaGreatDoor
open Go Go.Eng
/-! other oracles -/
section
variable {P : Program} {E : Env}
theorem From.orc {o o' : FuncId → List Value → St → Option (Value × St)} {ctx : Ctx} {items : List Item} {fr : Fr} {s : St} {r : AExit × Fr × St} (h : From P { E with orc := o } ctx items fr s r) : From P { E with orc := o' } ctx items fr s r := by
  intro ρ w tmps defers fn kind round k cs h1 h2 h3
  obtain ⟨ρ', w', tmps', defers', q1, q2, q3, q4⟩ := h ρ w tmps defers fn kind round k cs h1.orc h2 h3
  exact ⟨ρ', w', tmps', defers', q1.orc, q2, q3, q4⟩
theorem CallOk.orc {o o' : FuncId → List Value → St → Option (Value × St)} {f : FuncId} {args : List Value} {s : St} {r : AEnd × St} (hn : o f args s = none) (h : CallOk P { E with orc := o } (.enter f args) s r) : CallOk P { E with orc := o' } (.enter f args) s r := by
  intro ρ w args' kind c cs h1 h2 h3 _
  obtain ⟨ρ', w', q1, q2, q3⟩ := h ρ w args' kind c cs h1.orc h2 h3 (.inr hn)
  exact ⟨ρ', w', q1.orc, q2, q3⟩
theorem From.seqJ {ctx : Ctx} {a b : Code} {fr fr1 : Fr} {s s1 : St} (h : From P E ctx [.code a] fr s (.jump .ret, fr1, s1)) : From P E ctx [.code (.seq a b)] fr s (.jump .ret, fr1, s1) :=
  (h.leaves (x := .code b) (by intro h; cases h) (fun _ _ h => by cases h) (fun _ _ h => by cases h)).steps fun _ _ _ _ _ _ _ _ => .one st_seq
theorem From.blockJ {ctx : Ctx} {id : Nat} {c : Code} {fr fr1 : Fr} {s s1 : St} (h : From P E ctx [.code c] fr s (.jump .ret, fr1, s1)) : From P E ctx [.code (.block id c)] fr s (.jump .ret, fr1, s1) :=
  blockF_ok (pointX_ok h) (by rw [pointX_at])
theorem From.blockN {ctx : Ctx} {id : Nat} {c : Code} {fr fr1 : Fr} {s s1 : St} (h : From P E ctx [.code c] fr s (.normal, fr1, s1)) : From P E ctx [.code (.block id c)] fr s (.normal, fr1, s1) :=
  blockF_ok (pointX_ok h) (by rw [pointX_at])
theorem From.regionN (ok : E.Ok P) (hmix : P.follows .mixedOrders = true) {call : ANext → St → Option (AEnd × St)} (hcall : ∀ a s r, call a s = some r → CallOk P E a s r) {f c : Nat} {ops : Array Oper} {l : List Nat} {fr fr' : Fr} {s s' : St} (hl : List.range ops.size = l)
    (h : opsF E call false ops l fr s = some (.normal, fr', s')) : From P E ⟨f, none⟩ [.code (.region c ops false)] fr s (.normal, fr', s') := by
  refine regionF_ok ok hmix hcall (ctx := ⟨f, none⟩) (id := c) (draw := false) ?_
  unfold regionF
  simp only [Bool.false_eq_true, if_false]
  rw [hl]
  exact h
theorem opsF_call {call : ANext → St → Option (AEnd × St)} {ir : Bool} {ops : Array Oper} {i : Nat} {rest : List Nat} {fr : Fr} {s s' : St} {o : Oper} {f : FuncId} {args : List Value} {v : Value}
    (ho : ops[i]? = some o) (hw : wantedA ops fr o = true) (he : evalOp E fr o s = some (.enter f args)) (hc : call (.enter f args) s = some (.ret v, s')) : opsF E call ir ops (i :: rest) fr s = opsF E call ir ops rest (fr.put o.dst v) s' := by
  simp only [opsF, ho, hw, if_true, he, onNext, hc]
end
def oF (o : Out) : F := match o with | some (_, fr, _) => fr.t | none => F.none
def oS (o : Out) : St := match o with | some (_, _, s) => s | none => ⟨HQ.none, 0⟩
def oC (o : Option (AEnd × St)) : St := match o with | some (_, s) => s | none => ⟨HQ.none, 0⟩
abbrev cx : Ctx := ⟨10, none⟩
noncomputable def cT : Code := bodyOf Tryz.f10
noncomputable def a0 : Code := seqL cT
noncomputable def c1 : Code := seqR cT
noncomputable def bB : Code := match seqL c1 with | .block _ c => c | c => c
noncomputable def b1 : Code := seqL bB
noncomputable def bA : Code := match seqR bB with | .cond _ a _ => a | c => c
noncomputable def bE : Code := match seqR bB with | .cond _ _ b => b | c => c
noncomputable def b3 : Code := seqL bE
noncomputable def bZ : Code := match seqR bE with | .cond _ a _ => a | c => c
noncomputable def c2 : Code := seqR c1
noncomputable def a5 : Code := seqL c2
noncomputable def c3 : Code := seqR c2
noncomputable def a6 : Code := seqL c3
noncomputable def c4 : Code := seqR c3
noncomputable def o7 : Array Oper := opsOf (seqL c4)
noncomputable def c5 : Code := seqR c4
noncomputable def a8 : Code := seqL c5
noncomputable def c6 : Code := seqR c5
noncomputable def o9 : Array Oper := opsOf (seqL c6)
noncomputable def c7 : Code := seqR c6
noncomputable def a10 : Code := seqL c7
theorem cT_eq : cT = .seq a0 (.seq (.block 0 (.seq b1 (.cond (.tmp 6) bA (.seq b3 (.cond (.tmp 9) bZ .skip))))) (.seq a5 (.seq a6 (.seq (.region 7 o7 false) (.seq a8 (.seq (.region 9 o9 false) (.seq a10 .ret))))))) := by kernel_rfl
def vN (n : Nat) : Value := .int .u64 (.ofNat n)
def t0 (n : Nat) : F := F.ofList [vN n]
noncomputable def fa (n : Nat) : F := oF (exec EB 20 cx a0 ⟨t0 n, 39, []⟩ s0)
theorem ea (n : Nat) : exec EB 20 cx a0 ⟨t0 n, 39, []⟩ s0 = some (.normal, ⟨fa n, 39, []⟩, s0) := by kernel_rfl
noncomputable def fb (n : Nat) : F := oF (exec EB 20 cx b1 ⟨fa n, 39, []⟩ s0)
theorem eb (n : Nat) : exec EB 20 cx b1 ⟨fa n, 39, []⟩ s0 = some (.normal, ⟨fb n, 39, []⟩, s0) := by kernel_rfl
theorem eb6 (n : Nat) : (fb n).get 6 = .bool (Nat.blt 1099511627776 n) := by kernel_rfl
noncomputable def fA (n : Nat) : F := oF (exec EB 20 cx bA ⟨fb n, 39, []⟩ s0)
theorem eA (n : Nat) : exec EB 20 cx bA ⟨fb n, 39, []⟩ s0 = some (.jump .ret, ⟨fA n, 39, []⟩, s0) := by kernel_rfl
noncomputable def fc (n : Nat) : F := oF (exec EB 20 cx b3 ⟨fb n, 39, []⟩ s0)
theorem ec (n : Nat) : exec EB 20 cx b3 ⟨fb n, 39, []⟩ s0 = some (.normal, ⟨fc n, 39, []⟩, s0) := by kernel_rfl
theorem ec9 (n : Nat) : (fc n).get 9 = .bool (Nat.beq n 0) := by kernel_rfl
noncomputable def fZ (n : Nat) : F := oF (exec EB 20 cx bZ ⟨fc n, 39, []⟩ s0)
theorem eZ (n : Nat) : exec EB 20 cx bZ ⟨fc n, 39, []⟩ s0 = some (.jump .ret, ⟨fZ n, 39, []⟩, s0) := by kernel_rfl
def s5 : St := ⟨(HQ.none.set 0 utfNone).set 1 (.cells [.slice none 0 0] 69 1 false true), 2⟩
noncomputable def f5 (n : Nat) : F := oF (exec EB 20 cx a5 ⟨fc n, 39, []⟩ s0)
theorem e5 (n : Nat) : exec EB 20 cx a5 ⟨fc n, 39, []⟩ s0 = some (.normal, ⟨f5 n, 39, []⟩, s5) := by kernel_rfl
noncomputable def f6 (n : Nat) : F := oF (exec EB 20 cx a6 ⟨f5 n, 39, []⟩ s5)
theorem e6 (n : Nat) : exec EB 20 cx a6 ⟨f5 n, 39, []⟩ s5 = some (.normal, ⟨f6 n, 39, []⟩, s5) := by kernel_rfl
noncomputable def q7 (i : Nat) : Oper := (o7[i]?).getD default
theorem r7 : List.range o7.size = [0, 1] ++ [2] := by kernel_rfl
noncomputable def f7a (n : Nat) : F := oF (opsF EB noCall false o7 [0, 1] ⟨f6 n, 39, []⟩ s5)
theorem e7a (call : ANext → St → Option (AEnd × St)) (n : Nat) : opsF EB call false o7 [0, 1] ⟨f6 n, 39, []⟩ s5 = some (.normal, ⟨f7a n, 39, []⟩, s5) := by kernel_rfl
theorem q7g : o7[2]? = some (q7 2) := by kernel_rfl
theorem q7w (fr : Fr) : wantedA o7 fr (q7 2) = true := by kernel_rfl
theorem q7e (n : Nat) : evalOp EB ⟨f7a n, 39, []⟩ (q7 2) s5 = some (.enter 19 [pR 1, vN n, .int .i64 (.ofNat 1)]) := by kernel_rfl
theorem q7d : (q7 2).dst = some 18 := by kernel_rfl
noncomputable def f7 (n : Nat) : F := (f7a n).set 18 (.tuple #[])
theorem inv5 : Inv 1 0 s5 := .nil rfl (by decide) (by kernel_rfl)
noncomputable def s7 (n d : Nat) : St := lays 1 n d s5
noncomputable def f8 (n d : Nat) : F := oF (exec EB 20 cx a8 ⟨f7 n, 39, []⟩ (s7 n d))
noncomputable def s8 (n d : Nat) : St := oS (exec EB 20 cx a8 ⟨f7 n, 39, []⟩ (s7 n d))
theorem e8 (n : Nat) : ∀ d, 1 ≤ d → d ≤ 11 → exec EB 20 cx a8 ⟨f7 n, 39, []⟩ (s7 n d) = some (.normal, ⟨f8 n d, 39, []⟩, s8 n d)
  | 1, _, _ => by kernel_rfl
  | 2, _, _ => by kernel_rfl
  | 3, _, _ => by kernel_rfl
  | 4, _, _ => by kernel_rfl
  | 5, _, _ => by kernel_rfl
  | 6, _, _ => by kernel_rfl
  | 7, _, _ => by kernel_rfl
  | 8, _, _ => by kernel_rfl
  | 9, _, _ => by kernel_rfl
  | 10, _, _ => by kernel_rfl
  | 11, _, _ => by kernel_rfl
  | 0, h, _ => absurd h (by decide)
  | d + 12, _, h => absurd h (by omega)
noncomputable def E9 : Env := { EB with orc := fun _ _ s => some (.bool true, s) }
noncomputable def q9 (i : Nat) : Oper := (o9[i]?).getD default
theorem r9 : List.range o9.size = [0, 1] ++ [2, 3, 4, 5] := by kernel_rfl
noncomputable def f9a (n d : Nat) : F := oF (opsF EB noCall false o9 [0, 1] ⟨f8 n d, 39, []⟩ (s8 n d))
theorem e9a (E : Env) (call : ANext → St → Option (AEnd × St)) (n : Nat) : ∀ d, 1 ≤ d → d ≤ 11 → opsF EB call false o9 [0, 1] ⟨f8 n d, 39, []⟩ (s8 n d) = some (.normal, ⟨f9a n d, 39, []⟩, s8 n d)
  | 1, _, _ => by kernel_rfl
  | 2, _, _ => by kernel_rfl
  | 3, _, _ => by kernel_rfl
  | 4, _, _ => by kernel_rfl
  | 5, _, _ => by kernel_rfl
  | 6, _, _ => by kernel_rfl
  | 7, _, _ => by kernel_rfl
  | 8, _, _ => by kernel_rfl
  | 9, _, _ => by kernel_rfl
  | 10, _, _ => by kernel_rfl
  | 11, _, _ => by kernel_rfl
  | 0, h, _ => absurd h (by decide)
  | d + 12, _, h => absurd h (by omega)
theorem q9g2 : o9[2]? = some (q9 2) := by kernel_rfl
theorem q9w2 (fr : Fr) : wantedA o9 fr (q9 2) = true := by kernel_rfl
theorem q9g3 : o9[3]? = some (q9 3) := by kernel_rfl
theorem q9w3 (fr : Fr) : wantedA o9 fr (q9 3) = true := by kernel_rfl
theorem q9g4 : o9[4]? = some (q9 4) := by kernel_rfl
theorem q9w4 (fr : Fr) : wantedA o9 fr (q9 4) = true := by kernel_rfl
theorem q9g5 : o9[5]? = some (q9 5) := by kernel_rfl
theorem q9w5 (fr : Fr) : wantedA o9 fr (q9 5) = true := by kernel_rfl
theorem q9d2 : (q9 2).dst = some 30 := by kernel_rfl
theorem q9d3 : (q9 3).dst = some 31 := by kernel_rfl
theorem q9d4 : (q9 4).dst = some 32 := by kernel_rfl
theorem q9d5 : (q9 5).dst = some 33 := by kernel_rfl
theorem q9e2 (n : Nat) : ∀ d, 1 ≤ d → d ≤ 11 → evalOp E9 ⟨f9a n d, 39, []⟩ (q9 2) (s8 n d) = some (.enter 21 [vN n])
  | 1, _, _ => by kernel_rfl
  | 2, _, _ => by kernel_rfl
  | 3, _, _ => by kernel_rfl
  | 4, _, _ => by kernel_rfl
  | 5, _, _ => by kernel_rfl
  | 6, _, _ => by kernel_rfl
  | 7, _, _ => by kernel_rfl
  | 8, _, _ => by kernel_rfl
  | 9, _, _ => by kernel_rfl
  | 10, _, _ => by kernel_rfl
  | 11, _, _ => by kernel_rfl
  | 0, h, _ => absurd h (by decide)
  | d + 12, _, h => absurd h (by omega)
def v9 (d : Nat) : Value := .slice (some ⟨4 + d, 0, some 8⟩) 8 9
noncomputable def s9 (n d : Nat) : St := oC (exec.call EB 300 (.enter 21 [vN n]) (s8 n d))
theorem e21 (n : Nat) : ∀ d, 1 ≤ d → d ≤ 11 → exec.call EB 300 (.enter 21 [vN n]) (s8 n d) = some (.ret (v9 d), s9 n d)
  | 1, _, _ => by kernel_rfl
  | 2, _, _ => by kernel_rfl
  | 3, _, _ => by kernel_rfl
  | 4, _, _ => by kernel_rfl
  | 5, _, _ => by kernel_rfl
  | 6, _, _ => by kernel_rfl
  | 7, _, _ => by kernel_rfl
  | 8, _, _ => by kernel_rfl
  | 9, _, _ => by kernel_rfl
  | 10, _, _ => by kernel_rfl
  | 11, _, _ => by kernel_rfl
  | 0, h, _ => absurd h (by decide)
  | d + 12, _, h => absurd h (by omega)
def by8 (n k : Nat) : Value := .int .u8 (.ofNat (n / 2 ^ k % 256))
def rows8 (n : Nat) : List Value := [by8 n 56, by8 n 48, by8 n 40, by8 n 32, by8 n 24, by8 n 16, by8 n 8, by8 n 0]
theorem g9 (n : Nat) : ∀ d, 1 ≤ d → d ≤ 11 → readN (s9 n d) ⟨4 + d, 0, some 8⟩ 8 = some (rows8 n)
  | 1, _, _ => by kernel_rfl
  | 2, _, _ => by kernel_rfl
  | 3, _, _ => by kernel_rfl
  | 4, _, _ => by kernel_rfl
  | 5, _, _ => by kernel_rfl
  | 6, _, _ => by kernel_rfl
  | 7, _, _ => by kernel_rfl
  | 8, _, _ => by kernel_rfl
  | 9, _, _ => by kernel_rfl
  | 10, _, _ => by kernel_rfl
  | 11, _, _ => by kernel_rfl
  | 0, h, _ => absurd h (by decide)
  | d + 12, _, h => absurd h (by omega)
theorem nx9 (n : Nat) : ∀ d, 1 ≤ d → d ≤ 11 → (s9 n d).nx = 13 + d
  | 1, _, _ => by kernel_rfl
  | 2, _, _ => by kernel_rfl
  | 3, _, _ => by kernel_rfl
  | 4, _, _ => by kernel_rfl
  | 5, _, _ => by kernel_rfl
  | 6, _, _ => by kernel_rfl
  | 7, _, _ => by kernel_rfl
  | 8, _, _ => by kernel_rfl
  | 9, _, _ => by kernel_rfl
  | 10, _, _ => by kernel_rfl
  | 11, _, _ => by kernel_rfl
  | 0, h, _ => absurd h (by decide)
  | d + 12, _, h => absurd h (by omega)
noncomputable def f9b (n d : Nat) : F := (f9a n d).set 30 (v9 d)
theorem q9e3 (n : Nat) : ∀ d, 1 ≤ d → d ≤ 11 → evalOp E9 ⟨f9b n d, 39, []⟩ (q9 3) (s9 n d) = some (.enter 20 [v9 d])
  | 1, _, _ => by kernel_rfl
  | 2, _, _ => by kernel_rfl
  | 3, _, _ => by kernel_rfl
  | 4, _, _ => by kernel_rfl
  | 5, _, _ => by kernel_rfl
  | 6, _, _ => by kernel_rfl
  | 7, _, _ => by kernel_rfl
  | 8, _, _ => by kernel_rfl
  | 9, _, _ => by kernel_rfl
  | 10, _, _ => by kernel_rfl
  | 11, _, _ => by kernel_rfl
  | 0, h, _ => absurd h (by decide)
  | d + 12, _, h => absurd h (by omega)
def vC (c : Nat) : Value := .int .u32 (.ofNat c)
noncomputable def f9c (n d c : Nat) : F := (f9b n d).set 31 (vC c)
def c64 (c : Nat) : Nat := c % 18446744073709551616
theorem q9e4 (n c : Nat) : ∀ d, 1 ≤ d → d ≤ 11 → evalOp E9 ⟨f9c n d c, 39, []⟩ (q9 4) (s9 n d) = some (.val (vN (c64 c)) (s9 n d))
  | 1, _, _ => by kernel_rfl
  | 2, _, _ => by kernel_rfl
  | 3, _, _ => by kernel_rfl
  | 4, _, _ => by kernel_rfl
  | 5, _, _ => by kernel_rfl
  | 6, _, _ => by kernel_rfl
  | 7, _, _ => by kernel_rfl
  | 8, _, _ => by kernel_rfl
  | 9, _, _ => by kernel_rfl
  | 10, _, _ => by kernel_rfl
  | 11, _, _ => by kernel_rfl
  | 0, h, _ => absurd h (by decide)
  | d + 12, _, h => absurd h (by omega)
noncomputable def f9d (n d c : Nat) : F := (f9c n d c).set 32 (vN (c64 c))
theorem q9e5 (n c : Nat) : ∀ d, 1 ≤ d → d ≤ 11 → evalOp E9 ⟨f9d n d c, 39, []⟩ (q9 5) (s9 n d) = some (.enter 19 [pR 1, vN (c64 c), .int .i64 (.ofNat 8)])
  | 1, _, _ => by kernel_rfl
  | 2, _, _ => by kernel_rfl
  | 3, _, _ => by kernel_rfl
  | 4, _, _ => by kernel_rfl
  | 5, _, _ => by kernel_rfl
  | 6, _, _ => by kernel_rfl
  | 7, _, _ => by kernel_rfl
  | 8, _, _ => by kernel_rfl
  | 9, _, _ => by kernel_rfl
  | 10, _, _ => by kernel_rfl
  | 11, _, _ => by kernel_rfl
  | 0, h, _ => absurd h (by decide)
  | d + 12, _, h => absurd h (by omega)
noncomputable def f9 (n d c : Nat) : F := (f9d n d c).set 33 (.tuple #[])
def hexB (c : Nat) : UInt8 := UInt8.ofNat (hexD c)
/-- The digits from a place down, as values. -/
def hexV (n : Nat) : Nat → List Value
  | 0 => []
  | k + 1 => layB n k :: hexV n k
def hexL (n : Nat) : Nat → List UInt8
  | 0 => []
  | k + 1 => hexB (n / 2 ^ (4 * k) % 16) :: hexL n k
theorem g9r (n : Nat) : ∀ d, 1 ≤ d → d ≤ 11 → (s9 n d).h.get 1 = some (.cells [.slice (some ⟨3, 0, some (d + 1)⟩) (d + 1) 0] 69 1 false true)
  | 1, _, _ => by kernel_rfl
  | 2, _, _ => by kernel_rfl
  | 3, _, _ => by kernel_rfl
  | 4, _, _ => by kernel_rfl
  | 5, _, _ => by kernel_rfl
  | 6, _, _ => by kernel_rfl
  | 7, _, _ => by kernel_rfl
  | 8, _, _ => by kernel_rfl
  | 9, _, _ => by kernel_rfl
  | 10, _, _ => by kernel_rfl
  | 11, _, _ => by kernel_rfl
  | 0, h, _ => absurd h (by decide)
  | d + 12, _, h => absurd h (by omega)
theorem g9b (n : Nat) : ∀ d, 1 ≤ d → d ≤ 11 → (s9 n d).h.get 3 = some (.cells (hexV n d ++ [.int .u8 46]) 5 1 false false)
  | 1, _, _ => by kernel_rfl
  | 2, _, _ => by kernel_rfl
  | 3, _, _ => by kernel_rfl
  | 4, _, _ => by kernel_rfl
  | 5, _, _ => by kernel_rfl
  | 6, _, _ => by kernel_rfl
  | 7, _, _ => by kernel_rfl
  | 8, _, _ => by kernel_rfl
  | 9, _, _ => by kernel_rfl
  | 10, _, _ => by kernel_rfl
  | 11, _, _ => by kernel_rfl
  | 0, h, _ => absurd h (by decide)
  | d + 12, _, h => absurd h (by omega)
theorem hexV_length (n : Nat) : ∀ k, (hexV n k).length = k
  | 0 => rfl
  | k + 1 => by simp [hexV, hexV_length n k]
theorem inv9 {n d : Nat} (h1 : 1 ≤ d) (h2 : d ≤ 11) : Inv 1 (d + 1) (s9 n d) :=
  .some 3 (hexV n d ++ [.int .u8 46]) 1 (by simp [hexV_length]) (by rw [nx9 n d h1 h2]; omega) (by decide) (by rw [nx9 n d h1 h2]; omega) (g9r n d h1 h2) (g9b n d h1 h2)
noncomputable def s10 (n d c : Nat) : St := lays 1 (c64 c) 8 (s9 n d)
noncomputable def f10 (n d c : Nat) : F := oF (exec EB 20 cx a10 ⟨f9 n d c, 39, []⟩ (s10 n d c))
theorem e10 (n c : Nat) : ∀ d, 1 ≤ d → d ≤ 11 → exec EB 20 cx a10 ⟨f9 n d c, 39, []⟩ (s10 n d c) = some (.normal, ⟨f10 n d c, 39, []⟩, s10 n d c)
  | 1, _, _ => by kernel_rfl
  | 2, _, _ => by kernel_rfl
  | 3, _, _ => by kernel_rfl
  | 4, _, _ => by kernel_rfl
  | 5, _, _ => by kernel_rfl
  | 6, _, _ => by kernel_rfl
  | 7, _, _ => by kernel_rfl
  | 8, _, _ => by kernel_rfl
  | 9, _, _ => by kernel_rfl
  | 10, _, _ => by kernel_rfl
  | 11, _, _ => by kernel_rfl
  | 0, h, _ => absurd h (by decide)
  | d + 12, _, h => absurd h (by omega)
def tokS (n d c : Nat) : ByteArray := ⟨⟨hexL n d ++ 46 :: hexL (c64 c) 8⟩⟩
theorem l10 (n c : Nat) : ∀ d, 1 ≤ d → d ≤ 11 → leaveF EB noCall Tryz.f10 ⟨f10 n d c, 39, []⟩ (s10 n d c) = some (.ret (.tuple #[.string (tokS n d c), .int .i64 0]), s10 n d c)
  | 1, _, _ => by kernel_rfl
  | 2, _, _ => by kernel_rfl
  | 3, _, _ => by kernel_rfl
  | 4, _, _ => by kernel_rfl
  | 5, _, _ => by kernel_rfl
  | 6, _, _ => by kernel_rfl
  | 7, _, _ => by kernel_rfl
  | 8, _, _ => by kernel_rfl
  | 9, _, _ => by kernel_rfl
  | 10, _, _ => by kernel_rfl
  | 11, _, _ => by kernel_rfl
  | 0, h, _ => absurd h (by decide)
  | d + 12, _, h => absurd h (by omega)
theorem k10 (n c : Nat) : ∀ d, 1 ≤ d → d ≤ 11 → (s10 n d c).h.get 0 = some utfNone
  | 1, _, _ => by kernel_rfl
  | 2, _, _ => by kernel_rfl
  | 3, _, _ => by kernel_rfl
  | 4, _, _ => by kernel_rfl
  | 5, _, _ => by kernel_rfl
  | 6, _, _ => by kernel_rfl
  | 7, _, _ => by kernel_rfl
  | 8, _, _ => by kernel_rfl
  | 9, _, _ => by kernel_rfl
  | 10, _, _ => by kernel_rfl
  | 11, _, _ => by kernel_rfl
  | 0, h, _ => absurd h (by decide)
  | d + 12, _, h => absurd h (by omega)
theorem lA (n : Nat) : leaveF EB noCall Tryz.f10 ⟨fA n, 39, []⟩ s0 = some (.ret (.tuple #[.string ⟨⟨[]⟩⟩, .int .i64 2]), s0) := by kernel_rfl
theorem lZ (n : Nat) : leaveF EB noCall Tryz.f10 ⟨fZ n, 39, []⟩ s0 = some (.ret (.tuple #[.string ⟨⟨[]⟩⟩, .int .i64 0]), s0) := by kernel_rfl
end Go.Proofs.YtkgapncajjafoaaGreatDoor
