/- The walk of crc.takes. -/
import Derived.Test.YtkgapncajjafoaaGreatDoorChecked
import Derived.WalkKit
import Derived.IntWalk
import Derived.Lib.Hide
import Derived.Laws.BitsAllLaws
import Derived.Sort.Walk7a
set_option maxRecDepth 100000
namespace Go.Proofs.YtkgapncajjafoaaGreatDoor
open Go.RowKit

def stepN (n : Nat) : Nat := Nat.xor (Nat.div n 2) (Nat.mul (Nat.mod n 2) 2197175160)
def itN : Nat → Nat → Nat
  | 0, m => m
  | k + 1, m => stepN (itN k m)
theorem stepN_lt (n : Nat) (h : n < 4294967296) : stepN n < 4294967296 := by
  have h1 : Nat.div n 2 < 2 ^ 32 := by show n / 2 < _; omega
  have h2 : Nat.mul (Nat.mod n 2) 2197175160 < 2 ^ 32 := by show n % 2 * 2197175160 < _; omega
  exact Nat.xor_lt_two_pow h1 h2
theorem itN_lt (n : Nat) (h : n < 4294967296) : ∀ k, itN k n < 4294967296
  | 0 => h
  | k + 1 => stepN_lt _ (itN_lt n h k)
theorem step_even (m : Nat) (h : m % 2 = 0) : stepN m = m / 2 := by
  have : stepN m = (m / 2) ^^^ (m % 2 * 2197175160) := rfl
  rw [this, h]; simp
theorem step_odd (m : Nat) (h : m % 2 = 1) : stepN m = (m / 2) ^^^ 2197175160 := by
  have : stepN m = (m / 2) ^^^ (m % 2 * 2197175160) := rfl
  rw [this, h]
theorem cell_set_same {w : World} {a : Addr} {u : Value} (h : w.cell? a = some u) (v : Value) : (w.setCell a v).cell? a = some v := World.cell?_setCell_same _ _ _ h
set_option maxHeartbeats 1000000 in
theorem takes_any (b o : Nat) (n c : Nat) (w : World) (hc : w.cell? ⟨b, o, none⟩ = some (.int .u32 (n : Int))) (hf : w.frozen? ⟨b, o, none⟩ = false) (hn : n < 4294967296) (hc1 : c < 256) :
    Calls Tryz.prog 49 #[.pointer (some ⟨b, o, none⟩), .int .u8 (c : Int)] w fun e w' => e = .returned (.tuple #[]) ∧ w' = w.setCell ⟨b, o, none⟩ (.int .u32 (itN 8 (n ^^^ c) : Nat)) := by
  have hx : bits .xor .u32 (n : Int) (c : Int) = ((n ^^^ c : Nat) : Int) := u32_xor_nat n c hn (by omega)
  have hm0 : n ^^^ c < 4294967296 := Nat.xor_lt_two_pow (n := 32) hn (by omega)
  generalize hgm : n ^^^ c = m0 at hx hm0 ⊢
  clear hgm
  go_enter Tryz.func49, Tryz.ntmps49
  go_wp2
  go_loopw [16] (fun i wr => ∃ k : Nat, k ≤ 8 ∧ i = .int .i64 (k : Int) ∧ wr = w.setCell ⟨b, o, none⟩ (.int .u32 (itN k m0 : Nat))) (fun i _ => 8 - (intOf i).toNat)
  case atStart => exact ⟨0, by omega, rfl, rfl⟩
  case round =>
    obtain ⟨k, hk, rfl, hw⟩ := hrel
    have hcr : wr.cell? ⟨b, o, none⟩ = some (.int .u32 (itN k m0 : Nat)) := by rw [hw]; exact cell_set_same hc _
    have hfr : wr.frozen? ⟨b, o, none⟩ = false := by rw [hw]; simpa using hf
    have Hw := Lib.hid hw
    clear hw
    have hm := itN_lt m0 hm0 k
    have hs : itN (k + 1) m0 = stepN (itN k m0) := rfl
    have he : k = 8 → itN 8 m0 = itN k m0 := fun h => by rw [h]
    have He := Lib.hid he
    clear he
    generalize itN k m0 = m at hcr hm hs Hw He
    have Hs := Lib.hid hs
    clear hs hc hf hx
    by_cases hk8 : k < 8
    · rcases Nat.mod_two_eq_zero_or_one m with hp | hp
      · have hand : bits .and .u32 (m : Int) 1 = 0 := by
          have := u32_and_nat m 1 hm (by decide)
          rw [Nat.and_one_is_mod, hp] at this
          exact this
        have Hp := Lib.hid (step_even m hp)
        clear hp
        go_wp2
        refine ⟨⟨k + 1, by omega, by go_num, ?_⟩, by simp [intOf]; omega⟩
        rw [Hs.out, Hp.out, Hw.out, setCell_setCell]
        rfl
      · have hand : bits .and .u32 (m : Int) 1 = 1 := by
          have := u32_and_nat m 1 hm (by decide)
          rw [Nat.and_one_is_mod, hp] at this
          exact this
        have hxo : bits .xor .u32 ((m : Int) / 2) 2197175160 = ((m / 2 ^^^ 2197175160 : Nat) : Int) := u32_xor_nat (m / 2) 2197175160 (by omega) (by decide)
        have Hp := Lib.hid (step_odd m hp)
        clear hp
        go_wp2
        refine ⟨⟨k + 1, by omega, by go_num, ?_⟩, by simp [intOf]; omega⟩
        rw [Hs.out, Hp.out, Hw.out, setCell_setCell, setCell_setCell]
    · have h8 : k = 8 := by omega
      have H8 := Lib.hid h8
      clear h8
      go_wp2
      go_end0
      refine ⟨rfl, ?_⟩
      rw [Hw.out, He.out H8.out]
end Go.Proofs.YtkgapncajjafoaaGreatDoor
