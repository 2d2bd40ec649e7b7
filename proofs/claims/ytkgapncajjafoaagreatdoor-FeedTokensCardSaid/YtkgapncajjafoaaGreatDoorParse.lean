/- feed.Parse: the walk. -/
import Derived.Test.YtkgapncajjafoaaGreatDoorChecked
import Derived.WalkKit
import Derived.IntWalk
import Derived.Lib.Hide
import Derived.Laws.BitsAllLaws
import Derived.Laws.Bits64
import Derived.Laws.RangeString
import Derived.Laws.RangeAny
import Derived.Laws.Runes
import Derived.LoopTactic
import Derived.Scope
import Derived.WalkMore
import Derived.Sort.Walk7a
set_option maxRecDepth 100000
namespace Go.Proofs.YtkgapncajjafoaaGreatDoor
open Go.RowKit
/-- A rune taken in. -/
def rstep (n c : Nat) : Nat := if 48 ≤ c ∧ c ≤ 57 then n * 16 + (c - 48) else if 97 ≤ c ∧ c ≤ 102 then n * 16 + (c - 87) else n
/-- The number that is read off a string. -/
def pread (s : ByteArray) : Nat → Nat → Nat → Nat
  | 0, _, n => n
  | f + 1, pos, n => if pos < s.size then (if (Utf8.decode s pos).1 = 46 ∨ 11 < pos then n else pread s f (pos + (Utf8.decode s pos).2) (rstep n (Utf8.decode s pos).1)) else n
theorem rwidth_pos (s : ByteArray) (pos : Nat) (h : pos < s.size) : 1 ≤ (Utf8.decode s pos).2 := by
  by_cases ha : (s[pos]'h).toNat < 128
  · rw [decode_ascii s pos h ha]
    exact Nat.le_refl _
  · exact (decode_high s pos h (by omega)).2
theorem pread_end (s : ByteArray) (f pos n : Nat) (h : ¬ pos < s.size) : pread s f pos n = n := by
  cases f with
  | zero => rfl
  | succ f => simp [pread, h]
theorem rstep_lt {n c p : Nat} (h : n < 16 ^ p) : rstep n c < 16 ^ (p + 1) := by
  have : 16 ^ (p + 1) = 16 ^ p * 16 := by rw [Nat.pow_succ]
  unfold rstep
  split
  · omega
  · split <;> omega
theorem or_step (n d : Nat) (hn : n < 1152921504606846976) (hd : d < 16) : bits .or .u64 (IntKind.u64.wrap ((n : Int) * 16)) (d : Int) = ((n * 16 + d : Nat) : Int) := by
  have h1 : IntKind.u64.wrap ((n : Int) * 16) = ((n * 16 : Nat) : Int) := by rw [IntKind.wrap_u64]; omega
  rw [h1, u64_or_nat _ _ (by omega) (by omega)]
  congr 1
  have := Nat.two_pow_add_eq_or_of_lt (i := 4) (b := d) (by omega) n
  rw [Nat.mul_comm n 16]
  exact this.symm
theorem or_step' (n : Nat) (d : Int) (k : Nat) (hk : d = (k : Int)) (hn : n < 1152921504606846976) (hd : k < 16) : bits .or .u64 (IntKind.u64.wrap ((n : Int) * 16)) d = ((n * 16 + k : Nat) : Int) := by
  rw [hk]; exact or_step n k hn hd
theorem rstep_lt2 {n c pos wd : Nat} (hn : n < 16 ^ pos) (hp : pos ≤ 11) (hw : 1 ≤ wd) : rstep n c < 16 ^ (pos + wd) ∧ rstep n c < 281474976710656 :=
  ⟨Nat.lt_of_lt_of_le (rstep_lt hn) (Nat.pow_le_pow_right (by decide) (by omega)), Nat.lt_of_lt_of_le (rstep_lt hn) (Nat.pow_le_pow_right (n := 16) (j := 12) (by decide) (by omega))⟩
theorem or_step2 (n : Nat) (d : Int) (k : Nat) (hk : d = (k : Int)) (hn : n < 1152921504606846976) (hd : k < 16) : bits .or .u64 ((n : Int) * 16) d = ((n * 16 + k : Nat) : Int) := by
  have h1 : IntKind.u64.wrap ((n : Int) * 16) = (n : Int) * 16 := by rw [IntKind.wrap_u64]; omega
  have := or_step' n d k hk hn hd
  rwa [h1] at this
theorem val48 {n c : Nat} (h1 : (48 : Int) ≤ c) (h2 : (c : Int) ≤ 57) (hn : n < 281474976710656) : bits .or .u64 ((n : Int) * 16) ((c : Int) - 48) = ((rstep n c : Nat) : Int) := by
  rw [or_step2 n _ (c - 48) (by omega) (by omega) (by omega)]
  unfold rstep; rw [if_pos ⟨by omega, by omega⟩]
theorem val97 {n c : Nat} (h1 : (97 : Int) ≤ c) (h2 : (c : Int) ≤ 102) (hn : n < 281474976710656) : bits .or .u64 ((n : Int) * 16) ((c : Int) - 97 + 10) = ((rstep n c : Nat) : Int) := by
  rw [or_step2 n _ (c - 87) (by omega) (by omega) (by omega)]
  unfold rstep; rw [if_neg (by omega), if_pos ⟨by omega, by omega⟩]
theorem valno {n c : Nat} (h1 : ¬ (48 ≤ c ∧ c ≤ 57)) (h2 : ¬ (97 ≤ c ∧ c ≤ 102)) : rstep n c = n := by
  unfold rstep; rw [if_neg h1, if_neg h2]
set_option maxHeartbeats 4000000 in
theorem parse_any (tokB : Nat → ByteArray) (errN : Nat → Int) (Q : World → World → Prop) (L : World → Prop) (s : ByteArray) (hs : s.size ≤ 100) (w : World)
    (hL : ∀ pos, L (w.iter s pos))
    (hT : ∀ (n : Nat) (w : World), n < 18446744073709551616 → L w → Calls Tryz.prog 10 #[.int .u64 (n : Int)] w fun e w' => e = .returned (.tuple #[.string (tokB n), .int .i64 (errN n)]) ∧ Q w w') :
    Calls Tryz.prog 12 #[.string s] w fun e w' => ∃ pos, Q (w.iter s pos) w' ∧ e = if errN (pread s s.size 0 0) = 0 ∧ ((tokB (pread s s.size 0 0)).toList == s.toList) = true then .returned (.tuple #[.int .u64 (pread s s.size 0 0 : Nat), .int .i64 0]) else .returned (.tuple #[.int .u64 0, .int .i64 310]) := by
  have HT := Lib.hid hT
  have HL := Lib.hid hL
  clear hT hL
  obtain ⟨r, hr⟩ : ∃ r, r = pread s s.size 0 0 := ⟨_, rfl⟩
  rw [← hr]
  have Hr := Lib.hid hr
  clear hr
  go_enter Tryz.func12, Tryz.ntmps12
  go_wp2
  go_step3
  go_wp2
  go_step3
  go_wp2
  go_loopw [4] (fun v w' => ∃ (pos b n : Nat), w' = w.iter s pos ∧ v = .int .u64 (n : Int) ∧ pread s b pos n = r ∧ s.size ≤ pos + b ∧ n < 16 ^ pos ∧ n < 281474976710656) (fun _ w' => s.size - w'.iterPos w.heap.size)
  case atStart => exact ⟨0, s.size, 0, rfl, rfl, Hr.out.symm, by omega, by decide, by decide⟩
  case round =>
    obtain ⟨pos, b, n, rfl, rfl, hc, hb, hn, hn2⟩ := hrel
    by_cases hp : pos < s.size
    · obtain ⟨b, rfl⟩ : ∃ b', b = b' + 1 := ⟨b - 1, by omega⟩
      have hnx : ∀ ty, (Instr.next (.pointer (some ⟨w.heap.size, 0, none⟩)) true ty).run Tryz.prog (w.iter s pos) = _ := fun ty => run_next_any w s pos ty hp
      have hwd := rwidth_pos s pos hp
      have hd := decode_le s pos
      have hstep : pread s (b + 1) pos n = if (Utf8.decode s pos).1 = 46 ∨ 11 < pos then n else pread s b (pos + (Utf8.decode s pos).2) (rstep n (Utf8.decode s pos).1) := by simp [pread, hp]
      rw [hstep] at hc
      clear hstep
      generalize (Utf8.decode s pos).1 = c at *
      generalize (Utf8.decode s pos).2 = wd at *
      by_cases hst : c = 46 ∨ 11 < pos
      · rw [if_pos hst] at hc
        subst hc
        have hnb : n < 18446744073709551616 := by omega
        by_cases h46 : c = 46
        · clear hst
          by_cases he : errN n = 0
          · by_cases ht : ((tokB n).toList == s.toList) = true
            · have hfin : ∀ W1, Q (w.iter s (pos + wd)) W1 → ∃ p, Q (w.iter s p) W1 ∧ Ending.returned (.tuple #[.int .u64 (n : Int), .int .i64 0]) = if errN n = 0 ∧ ((tokB n).toList == s.toList) = true then .returned (.tuple #[.int .u64 (n : Nat), .int .i64 0]) else .returned (.tuple #[.int .u64 0, .int .i64 310]) := fun W1 h => ⟨_, h, by rw [if_pos ⟨he, ht⟩]⟩
              have Hfin := Lib.hid hfin
              clear hfin hn hb hwd hd
              subst h46
              go_wp2_with ((with_reducible refine (HT.out n _ hnb (HL.out _)).mono ?_); rintro e W1 ⟨rfl, hQ⟩)
              rw [Exit.noGoto_ret]
              go_ret2
              exact Hfin.out _ hQ
            · have ht : ((tokB n).toList == s.toList) = false := by simpa using ht
              have hfin : ∀ W1, Q (w.iter s (pos + wd)) W1 → ∃ p, Q (w.iter s p) W1 ∧ Ending.returned (.tuple #[.int .u64 0, .int .i64 310]) = if errN n = 0 ∧ ((tokB n).toList == s.toList) = true then .returned (.tuple #[.int .u64 (n : Nat), .int .i64 0]) else .returned (.tuple #[.int .u64 0, .int .i64 310]) := fun W1 h => ⟨_, h, by rw [if_neg (fun h => by simp [ht] at h)]⟩
              have Hfin := Lib.hid hfin
              clear hfin hn hb hwd hd
              subst h46
              go_wp2_with ((with_reducible refine (HT.out n _ hnb (HL.out _)).mono ?_); rintro e W1 ⟨rfl, hQ⟩)
              rw [Exit.noGoto_ret]
              go_ret2
              exact Hfin.out _ hQ
          · have hfin : ∀ W1, Q (w.iter s (pos + wd)) W1 → ∃ p, Q (w.iter s p) W1 ∧ Ending.returned (.tuple #[.int .u64 0, .int .i64 310]) = if errN n = 0 ∧ ((tokB n).toList == s.toList) = true then .returned (.tuple #[.int .u64 (n : Nat), .int .i64 0]) else .returned (.tuple #[.int .u64 0, .int .i64 310]) := fun W1 h => ⟨_, h, by rw [if_neg (fun h => he h.1)]⟩
            have Hfin := Lib.hid hfin
            clear hfin hn hb hwd hd
            subst h46
            go_wp2_with ((with_reducible refine (HT.out n _ hnb (HL.out _)).mono ?_); rintro e W1 ⟨rfl, hQ⟩)
            rw [Exit.noGoto_ret]
            go_ret2
            exact Hfin.out _ hQ
        · have hp11 : 11 < pos := by omega
          clear hst
          by_cases he : errN n = 0
          · by_cases ht : ((tokB n).toList == s.toList) = true
            · have hfin : ∀ W1, Q (w.iter s (pos + wd)) W1 → ∃ p, Q (w.iter s p) W1 ∧ Ending.returned (.tuple #[.int .u64 (n : Int), .int .i64 0]) = if errN n = 0 ∧ ((tokB n).toList == s.toList) = true then .returned (.tuple #[.int .u64 (n : Nat), .int .i64 0]) else .returned (.tuple #[.int .u64 0, .int .i64 310]) := fun W1 h => ⟨_, h, by rw [if_pos ⟨he, ht⟩]⟩
              have Hfin := Lib.hid hfin
              clear hfin hn hb hwd
              go_wp2_with ((with_reducible refine (HT.out n _ hnb (HL.out _)).mono ?_); rintro e W1 ⟨rfl, hQ⟩)
              rw [Exit.noGoto_ret]
              go_ret2
              exact Hfin.out _ hQ
            · have ht : ((tokB n).toList == s.toList) = false := by simpa using ht
              have hfin : ∀ W1, Q (w.iter s (pos + wd)) W1 → ∃ p, Q (w.iter s p) W1 ∧ Ending.returned (.tuple #[.int .u64 0, .int .i64 310]) = if errN n = 0 ∧ ((tokB n).toList == s.toList) = true then .returned (.tuple #[.int .u64 (n : Nat), .int .i64 0]) else .returned (.tuple #[.int .u64 0, .int .i64 310]) := fun W1 h => ⟨_, h, by rw [if_neg (fun h => by simp [ht] at h)]⟩
              have Hfin := Lib.hid hfin
              clear hfin hn hb hwd
              go_wp2_with ((with_reducible refine (HT.out n _ hnb (HL.out _)).mono ?_); rintro e W1 ⟨rfl, hQ⟩)
              rw [Exit.noGoto_ret]
              go_ret2
              exact Hfin.out _ hQ
          · have hfin : ∀ W1, Q (w.iter s (pos + wd)) W1 → ∃ p, Q (w.iter s p) W1 ∧ Ending.returned (.tuple #[.int .u64 0, .int .i64 310]) = if errN n = 0 ∧ ((tokB n).toList == s.toList) = true then .returned (.tuple #[.int .u64 (n : Nat), .int .i64 0]) else .returned (.tuple #[.int .u64 0, .int .i64 310]) := fun W1 h => ⟨_, h, by rw [if_neg (fun h => he h.1)]⟩
            have Hfin := Lib.hid hfin
            clear hfin hn hb hwd
            go_wp2_with ((with_reducible refine (HT.out n _ hnb (HL.out _)).mono ?_); rintro e W1 ⟨rfl, hQ⟩)
            rw [Exit.noGoto_ret]
            go_ret2
            exact Hfin.out _ hQ
      · rw [if_neg hst] at hc
        have h46 : ¬ c = 46 := by omega
        have hp11 : pos ≤ 11 := by omega
        clear hst
        have hl2 := rstep_lt2 (c := c) (wd := wd) hn hp11 hwd
        have Hl2 := Lib.hid hl2
        have Hc := Lib.hid hc
        have Hb := Lib.hid hb
        clear hn hl2 hc hb
        have hme : s.size - (w.iter s (pos + wd)).iterPos w.heap.size < s.size - (w.iter s pos).iterPos w.heap.size := by simp; omega
        have Hme := Lib.hid hme
        clear hme
        have fin : ∀ x : Int, x = ((rstep n c : Nat) : Int) → (∃ pos_1 b_1 n_1, w.iter s (pos + wd) = w.iter s pos_1 ∧ Value.int .u64 x = Value.int .u64 (n_1 : Nat) ∧ pread s b_1 pos_1 n_1 = r ∧ s.size ≤ pos_1 + b_1 ∧ n_1 < 16 ^ pos_1 ∧ n_1 < 281474976710656) ∧ s.size - (w.iter s (pos + wd)).iterPos w.heap.size < s.size - (w.iter s pos).iterPos w.heap.size :=
          fun x hx => ⟨⟨pos + wd, b, rstep n c, rfl, by rw [hx], Hc.out, by have := Hb.out; omega, Hl2.out.1, Hl2.out.2⟩, Hme.out⟩
        have Fin := Lib.hid fin
        clear fin
        have hq46 : ((c : Int) == 46) = false := by simp; omega
        have hcond : ((c : Int) == 46 || decide (11 < (pos : Int))) = false := by rw [hq46]; simp; omega
        have hi46 : ¬ (c : Int) = 46 := by omega
        have hi11 : (pos : Int) ≤ 11 := by omega
        clear h46 hp11 hwd hd hs
        by_cases h1 : (48 : Int) ≤ c
        · by_cases h2 : (c : Int) ≤ 57
          · go_wp2
            exact Fin.out _ (val48 h1 h2 hn2)
          · have h2 : (57 : Int) < c := by omega
            by_cases h3 : (97 : Int) ≤ c
            · by_cases h4 : (c : Int) ≤ 102
              · go_wp2
                exact Fin.out _ (val97 h3 h4 hn2)
              · have h4 : (102 : Int) < c := by omega
                go_wp2
                exact Fin.out _ (by rw [valno (by omega) (by omega)])
            · have h3 : (c : Int) < 97 := by omega
              go_wp2
              exact Fin.out _ (by rw [valno (by omega) (by omega)])
        · have h1 : (c : Int) < 48 := by omega
          have h3 : (c : Int) < 97 := by omega
          go_wp2
          exact Fin.out _ (by rw [valno (by omega) (by omega)])
    · have hnx : ∀ ty, (Instr.next (.pointer (some ⟨w.heap.size, 0, none⟩)) true ty).run Tryz.prog (w.iter s pos) = _ := fun ty => run_next_end w s pos ty hp
      rw [pread_end s b pos n hp] at hc
      subst hc
      have hnb : n < 18446744073709551616 := by omega
      by_cases he : errN n = 0
      · by_cases ht : ((tokB n).toList == s.toList) = true
        · have hfin : ∀ W1, Q (w.iter s pos) W1 → ∃ p, Q (w.iter s p) W1 ∧ Ending.returned (.tuple #[.int .u64 (n : Int), .int .i64 0]) = if errN n = 0 ∧ ((tokB n).toList == s.toList) = true then .returned (.tuple #[.int .u64 (n : Nat), .int .i64 0]) else .returned (.tuple #[.int .u64 0, .int .i64 310]) := fun W1 h => ⟨_, h, by rw [if_pos ⟨he, ht⟩]⟩
          have Hfin := Lib.hid hfin
          clear hfin hn hb
          go_wp2_with ((with_reducible refine (HT.out n _ hnb (HL.out _)).mono ?_); rintro e W1 ⟨rfl, hQ⟩)
          rw [Exit.noGoto_ret]
          go_ret2
          exact Hfin.out _ hQ
        · have ht : ((tokB n).toList == s.toList) = false := by simpa using ht
          have hfin : ∀ W1, Q (w.iter s pos) W1 → ∃ p, Q (w.iter s p) W1 ∧ Ending.returned (.tuple #[.int .u64 0, .int .i64 310]) = if errN n = 0 ∧ ((tokB n).toList == s.toList) = true then .returned (.tuple #[.int .u64 (n : Nat), .int .i64 0]) else .returned (.tuple #[.int .u64 0, .int .i64 310]) := fun W1 h => ⟨_, h, by rw [if_neg (fun h => by simp [ht] at h)]⟩
          have Hfin := Lib.hid hfin
          clear hfin hn hb
          go_wp2_with ((with_reducible refine (HT.out n _ hnb (HL.out _)).mono ?_); rintro e W1 ⟨rfl, hQ⟩)
          rw [Exit.noGoto_ret]
          go_ret2
          exact Hfin.out _ hQ
      · have hfin : ∀ W1, Q (w.iter s pos) W1 → ∃ p, Q (w.iter s p) W1 ∧ Ending.returned (.tuple #[.int .u64 0, .int .i64 310]) = if errN n = 0 ∧ ((tokB n).toList == s.toList) = true then .returned (.tuple #[.int .u64 (n : Nat), .int .i64 0]) else .returned (.tuple #[.int .u64 0, .int .i64 310]) := fun W1 h => ⟨_, h, by rw [if_neg (fun h => he h.1)]⟩
        have Hfin := Lib.hid hfin
        clear hfin hn hb
        go_wp2_with ((with_reducible refine (HT.out n _ hnb (HL.out _)).mono ?_); rintro e W1 ⟨rfl, hQ⟩)
        rw [Exit.noGoto_ret]
        go_ret2
        exact Hfin.out _ hQ
end Go.Proofs.YtkgapncajjafoaaGreatDoor
