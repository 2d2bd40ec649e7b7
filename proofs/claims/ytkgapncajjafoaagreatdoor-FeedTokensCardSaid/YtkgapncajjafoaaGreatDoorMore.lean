/- The walk of crc.More and crc.Sum. -/
import Derived.Test.YtkgapncajjafoaaGreatDoorTakes
import Derived.OneCell
set_option maxRecDepth 100000
namespace Go.Proofs.YtkgapncajjafoaaGreatDoor
open Go.RowKit

def not32 (n : Nat) : Nat := 4294967295 ^^^ n
def crcF (a : Nat) (xs : List Nat) : Nat := xs.foldl (fun a x => itN 8 (a ^^^ x)) a
theorem not32_lt (n : Nat) (h : n < 4294967296) : not32 n < 4294967296 := Nat.xor_lt_two_pow (n := 32) (by decide) h
theorem crcF_lt : ∀ (xs : List Nat) (a : Nat), a < 4294967296 → (∀ x ∈ xs, x < 256) → crcF a xs < 4294967296
  | [], a, h, _ => h
  | x :: xs, a, h, hx => crcF_lt xs _ (itN_lt _ (Nat.xor_lt_two_pow (n := 32) h (by have := hx x (by simp); omega)) 8) (fun y hy => hx y (by simp [hy]))
theorem crcF_snoc (a : Nat) (xs : List Nat) (x : Nat) : crcF a (xs ++ [x]) = itN 8 (crcF a xs ^^^ x) := by simp [crcF]
theorem Tryz.info132 : (Tryz.prog.info? 132).map (fun i => (i.zero, i.size, i.bytes)) = some (some (.agg #[.int .u32 0]), 1, 4) := by kernel_rfl
set_option maxHeartbeats 1000000 in
theorem more_any (s : Nat) (xs : List Nat) (B o c : Nat) (w : World) (hs : s < 4294967296) (hx : ∀ x ∈ xs, x < 256) (hl : xs.length < 1000000)
    (hcells : ∀ (j : Nat) (x : Nat), xs[j]? = some x → w.cell? ⟨B, o + j, none⟩ = some (.int .u8 (x : Int))) :
    Calls Tryz.prog 33 #[.int .u32 (s : Int), .slice (some ⟨B, o, none⟩) xs.length c] w fun e w' => e = .returned (.int .u32 (not32 (crcF (not32 s) xs) : Nat)) ∧ Below w.heap.size w w' := by
  have hnot : bits .xor .u32 4294967295 (s : Int) = ((not32 s : Nat) : Int) := u32_xor_nat 4294967295 s (by decide) hs
  have hsg : IntKind.u32.signed = false := rfl
  have hmx : IntKind.u32.max = 4294967295 := rfl
  have Hc := Lib.hid hcells
  have Hx := Lib.hid hx
  clear hcells hx
  go_enter Tryz.func33, Tryz.ntmps33
  go_wp2
  go_loopw [16] (fun i wr => ∃ k : Nat, k ≤ xs.length ∧ i = .int .i64 (k : Int) ∧ Hid (wr.heap[w.heap.size]? = some (.cells #[.int .u32 (crcF (not32 s) (xs.take k) : Nat)] 132 (0, 0))) ∧ Hid (Below w.heap.size w wr)) (fun i _ => xs.length - (intOf i).toNat)
  case atStart =>
    refine ⟨0, Nat.zero_le _, rfl, ?_, ?_⟩
    · exact Lib.hid (by show (w.heap.push _)[w.heap.size]? = _; rw [Array.getElem?_push_size]; rfl)
    · exact Lib.hid ((Below.refl _ _).alloc (Nat.le_refl _) _)
  case round =>
    obtain ⟨k, hk, rfl, hcell, hbel⟩ := hrel
    by_cases hlt : k < xs.length
    · have h1 := cell_of_one hcell.out
      have h2 := free_of_one hcell.out
      obtain ⟨x, hxk⟩ : ∃ x, xs[k]? = some x := ⟨xs[k], by simp [hlt]⟩
      have hcx : wr.cell? ⟨B, o + k, none⟩ = some (.int .u8 (x : Int)) := by
        have := Hc.out k x hxk
        have hB : B < w.heap.size := by
          rcases Nat.lt_or_ge B w.heap.size with h | h
          · exact h
          · simp [World.cell?, Array.getElem?_eq_none h] at this
        rw [hbel.out.cell (p := ⟨B, o + k, none⟩) hB]; exact this
      have hx256 : x < 256 := Hx.out x (List.mem_of_getElem? hxk)
      have hcl : crcF (not32 s) (xs.take k) < 4294967296 := crcF_lt _ _ (not32_lt s hs) (fun y hy => Hx.out y (List.mem_of_mem_take hy))
      have Hn : Hid (crcF (not32 s) (xs.take (k + 1)) = itN 8 (crcF (not32 s) (xs.take k) ^^^ x)) := Lib.hid (by
        rw [List.take_add_one, hxk]; exact crcF_snoc _ _ _)
      have Hxk := Lib.hid hxk
      clear hxk hnot
      generalize crcF (not32 s) (xs.take k) = a at h1 hcl Hn hcell
      go_wp2_with ((with_reducible refine (takes_any _ _ a x _ h1 h2 hcl hx256).mono ?_); rintro e w' ⟨rfl, rfl⟩)
      exact ⟨⟨k + 1, by omega, by go_num, Lib.hid (by rw [Hn.out]; exact one_setCell hcell.out), Lib.hid (hbel.out.setCell (Nat.le_refl _) _)⟩, by simp [intOf]; omega⟩
    · have h1 := cell_of_one hcell.out
      have hke : Hid (xs.take k = xs) := Lib.hid (List.take_of_length_le (by omega))
      have hcl : crcF (not32 s) (xs.take k) < 4294967296 := crcF_lt _ _ (not32_lt s hs) (fun y hy => Hx.out y (List.mem_of_mem_take hy))
      have hn2 : bits .xor .u32 4294967295 ((crcF (not32 s) (xs.take k) : Nat) : Int) = ((not32 (crcF (not32 s) (xs.take k)) : Nat) : Int) := u32_xor_nat 4294967295 _ (by decide) hcl
      have He : Hid (not32 (crcF (not32 s) (xs.take k)) = not32 (crcF (not32 s) xs)) := Lib.hid (by rw [hke.out])
      clear hnot
      generalize crcF (not32 s) (xs.take k) = a at h1 hcl hn2 hcell He
      go_wp2
      go_ret
      exact ⟨congrArg (fun v : Nat => Ending.returned (.int .u32 (v : Int))) He.out, hbel.out⟩

set_option maxHeartbeats 1000000 in
theorem sum_any (xs : List Nat) (B o c : Nat) (w : World) (hx : ∀ x ∈ xs, x < 256) (hl : xs.length < 1000000)
    (hcells : ∀ (j : Nat) (x : Nat), xs[j]? = some x → w.cell? ⟨B, o + j, none⟩ = some (.int .u8 (x : Int))) :
    Calls Tryz.prog 20 #[.slice (some ⟨B, o, none⟩) xs.length c] w fun e w' => e = .returned (.int .u32 (not32 (crcF (not32 0) xs) : Nat)) ∧ Below w.heap.size w w' := by
  have hm : Calls Tryz.prog 33 #[.int .u32 0, .slice (some ⟨B, o, none⟩) xs.length c] w fun e w' => e = .returned (.int .u32 (not32 (crcF (not32 0) xs) : Nat)) ∧ Below w.heap.size w w' := more_any 0 xs B o c w (by decide) hx hl hcells
  have Hm := Lib.hid hm
  clear hm hcells hx
  go_enter Tryz.func20, Tryz.ntmps20
  go_wp2_with ((with_reducible refine Hm.out.mono ?_); rintro e w' ⟨rfl, hb⟩)
  go_ret
  exact ⟨rfl, hb⟩
end Go.Proofs.YtkgapncajjafoaaGreatDoor
