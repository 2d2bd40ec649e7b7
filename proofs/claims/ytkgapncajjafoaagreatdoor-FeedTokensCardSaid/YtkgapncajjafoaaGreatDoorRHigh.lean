/- The reference's High: the eight bytes of a number, the highest first. -/
import Derived.Test.YtkgapncajjafoaaGreatDoorTok2
set_option linter.all false
set_option maxRecDepth 100000
namespace Go.Proofs.YtkgapncajjafoaaGreatDoor
open Go Go.Eng
noncomputable def sH (n : Nat) : St := oC (exec.call EB 300 (.enter 24 [vN n, .int .i64 (.ofNat 8)]) s0)
def vH : Value := .slice (some ⟨2, 0, some 8⟩) 8 0
theorem e24 (n : Nat) : exec.call EB 300 (.enter 24 [vN n, .int .i64 (.ofNat 8)]) s0 = some (.ret vH, sH n) := by kernel_rfl
def hq (n : Nat) : Nat → Nat
  | 0 => n
  | k + 1 => hq n k / 256 % 18446744073709551616
def hB (n k : Nat) : Value := .int .u8 (.ofNat (hq n k % 256 % 256))
def rowsH (n : Nat) : List Value := [hB n 7, hB n 6, hB n 5, hB n 4, hB n 3, hB n 2, hB n 1, hB n 0]
theorem gH (n : Nat) : readN (sH n) ⟨2, 0, some 8⟩ 8 = some (rowsH n) := by kernel_rfl
theorem kH (n : Nat) : (sH n).h.get 0 = some utfNone := by kernel_rfl
theorem hq_eq {n : Nat} (hn : n < 18446744073709551616) : ∀ k, hq n k = n / 2 ^ (8 * k)
  | 0 => by simp [hq]
  | k + 1 => by
    have ih := hq_eq hn k
    have h1 : n / 2 ^ (8 * k) / 256 = n / 2 ^ (8 * (k + 1)) := by
      rw [Nat.div_div_eq_div_mul, show 8 * (k + 1) = 8 * k + 8 by omega, Nat.pow_add]
    have h2 : n / 2 ^ (8 * (k + 1)) < 18446744073709551616 := Nat.lt_of_le_of_lt (Nat.div_le_self _ _) hn
    rw [hq, ih, h1, Nat.mod_eq_of_lt h2]
theorem rowsH_eq {n : Nat} (hn : n < 18446744073709551616) : rowsH n = rows8 n := by
  simp only [rowsH, rows8, hB, by8, hq_eq hn, Nat.mod_mod]
theorem high_core {n : Nat} {S : St} (e24 : exec.call EB 300 (.enter 24 [vN n, .int .i64 (.ofNat 8)]) s0 = some (.ret vH, S)) (gH : readN S ⟨2, 0, some 8⟩ 8 = some (rowsH n)) (kH : S.h.get 0 = some utfNone) (hn : n < 18446744073709551616) {w : World} (h : Laid w) : Calls Tryz.prog 24 #[.int .u64 (n : Int), .int .i64 8] w fun e w' =>
    ∃ B c, e = .returned (.slice (some ⟨B, 0, none⟩) 8 c) ∧ (∀ (j : Nat) (x : Nat), (bytes8 n)[j]? = some x → w'.cell? ⟨B, 0 + j, none⟩ = some (.int .u8 (x : Int))) ∧ RowKit.Below w.heap.size w w' := by
  obtain ⟨q, h⟩ := h
  have hc := exec_calls (P := Tryz.prog) (E := EB) EB_ok mixed EB_true (n := 300) (f := 24) (args := [vN n, .int .i64 (.ofNat 8)]) (s := s0) rfl e24 (rel0 h) (args' := [vN n, .int .i64 (.ofNat 8)]) (.cons (.int _ _) (.cons (.int _ _) .nil))
  refine hc.mono fun e w' hh => ?_
  obtain ⟨ρ', v', rfl, q1, q2, q3⟩ := hh
  have hb := below0 h q1 q2 kH
  have hcells : ∀ (L : Eng.Loc), ρ' 2 8 = some L → ∀ (j : Nat) (x : Nat), (bytes8 n)[j]? = some x → w'.cell? ⟨L.c, 0 + j, none⟩ = some (.int .u8 (x : Int)) := by
    intro L hρ j x hj
    obtain ⟨ca, el, fz, p1, p2, p3, p4⟩ := readN_rel q1 hρ (gH.trans (congrArg some (rowsH_eq hn)))
    have hj8 : j < 8 := (List.getElem?_eq_some_iff.1 hj).1
    have h1 : (rows8 n)[j]? = some (.int .u8 (.ofNat x)) := by rw [rows8_eq, List.getElem?_map, hj]; rfl
    obtain ⟨v2, h2, h3⟩ := p4.get j _ h1
    cases h3
    rw [List.getElem?_take_of_lt hj8, List.drop_zero, Array.getElem?_toList] at h2
    simp only [World.cell?, p1, Nat.zero_add, Option.isSome_none, Bool.false_eq_true, if_false]
    exact h2
  have q3 : VRel ρ' (.slice (some ⟨2, 0, some 8⟩) 8 0) v' := q3
  cases q3 with
  | sliceOpen n c hρ hc he => exact ⟨_, _, rfl, hcells _ hρ, hb⟩
theorem high_any {n : Nat} (hn : n < 18446744073709551616) {w : World} (h : Laid w) : Calls Tryz.prog 24 #[.int .u64 (n : Int), .int .i64 8] w fun e w' =>
    ∃ B c, e = .returned (.slice (some ⟨B, 0, none⟩) 8 c) ∧ (∀ (j : Nat) (x : Nat), (bytes8 n)[j]? = some x → w'.cell? ⟨B, 0 + j, none⟩ = some (.int .u8 (x : Int))) ∧ RowKit.Below w.heap.size w w' := high_core (e24 n) (gH n) (kH n) hn h
end Go.Proofs.YtkgapncajjafoaaGreatDoor
