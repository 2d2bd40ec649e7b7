/- FeedTokens: the plain law, and its walk. -/
import Derived.Test.YtkgapncajjafoaaGreatDoorRTok
set_option maxRecDepth 100000
namespace Go.Proofs.YtkgapncajjafoaaGreatDoor
open Go.RowKit
theorem dvK_hex : ∀ c < 16, dvK (hexD c) 16 = c := by decide
theorem rrd_hex {n : Nat} (hn : n ≤ 1099511627776) (tail : List UInt8) : ∀ k, rrd (hexL n k ++ 46 :: tail) (n / 2 ^ (4 * k)) = some n
  | 0 => by simp [hexL, rrd]
  | k + 1 => by
    have hc : n / 2 ^ (4 * k) % 16 < 16 := Nat.mod_lt _ (by decide)
    have hb := hexD_cases _ hc
    have h1 : n / 2 ^ (4 * (k + 1)) ≤ n := Nat.div_le_self _ _
    have h2 := step16 n k
    show rrd (hexB (n / 2 ^ (4 * k) % 16) :: (hexL n k ++ 46 :: tail)) _ = _
    rw [rrd, hexB_nat _ hc, if_neg (by omega), dvK_hex _ hc, if_neg (by omega), show 16 * (n / 2 ^ (4 * (k + 1))) + n / 2 ^ (4 * k) % 16 = n / 2 ^ (4 * k) by omega]
    exact rrd_hex hn tail k
theorem rrd_tok {n : Nat} (h0 : n ≠ 0) (hn : n ≤ 1099511627776) : rrd (tokB n).data.toList 0 = some n := by
  have e : tokB n = ⟨⟨hexL n (hexN n) ++ 46 :: hexL (c64 (crcN n)) 8⟩⟩ := by unfold tokB; rw [if_neg (by omega)]; rfl
  rw [e]
  have := rrd_hex hn (hexL (c64 (crcN n)) 8) (hexN n)
  rwa [hexN_top hn] at this
/-- Where the program's Parse finds a number, so does the reference's; and where it finds none. -/
theorem rans_ok {s : ByteArray} (hs : ¬ s.size = 0) (h : parE s = 0) : rans tokB s (rrd s.data.toList 0) = (parN s, true) := by
  obtain ⟨h1, h2⟩ := par_ok h
  have hle := errN_le h1
  have h0 : parN s ≠ 0 := fun e => by
    rw [e] at h2
    exact hs (by rw [← h2]; rfl)
  have h3 := rrd_tok h0 hle
  rw [h2] at h3
  rw [h3, rans, if_neg (by omega), if_pos ((eq_iff _ _).2 h2)]
theorem rans_no {s : ByteArray} (h : ¬ parE s = 0) : rans tokB s (rrd s.data.toList 0) = (0, false) := by
  cases hr : rrd s.data.toList 0 with
  | none => rfl
  | some n =>
    unfold rans
    simp only
    split
    · rfl
    · rename_i hn
      split
      · rename_i ht
        have ht := (eq_iff _ _).1 ht
        exact absurd (by rw [← ht]; exact (par_tok (n := n) (by omega)).2) h
      · rfl
theorem rempty_any (w : World) : Calls Tryz.prog 13 #[.string ⟨#[]⟩] w fun e w' => e = .returned (.tuple #[.int .u64 0, .bool true]) ∧ Below w.heap.size w w' := by
  have hse : ((⟨#[]⟩ : ByteArray).toList == ([] : List UInt8)) = true := by rw [ByteArray.toList_eq]; rfl
  go_enter Tryz.func13, Tryz.ntmps13
  go_wp2
  go_ret2
  exact ⟨rfl, Below.refl _ _⟩
theorem rtok0_any (w : World) : Calls Tryz.prog 11 #[.int .u64 0] w fun e w' => e = .returned (.string ⟨#[]⟩) ∧ Below w.heap.size w w' := by
  go_enter Tryz.func11, Tryz.ntmps11
  go_wp2
  go_ret
  exact ⟨rfl, Below.refl _ _⟩
/-- Both Parses, at any string. -/
theorem both_any {s : ByteArray} (hs : s.size ≤ 100) : ∃ (a : Nat) (b : Int) (c : Bool), ((b = 0 ∧ c = true) ∨ (a = 0 ∧ b = 310 ∧ c = false)) ∧
    (∀ w : World, Laid w → Calls Tryz.prog 12 #[.string s] w fun e w' => e = .returned (.tuple #[.int .u64 (a : Nat), .int .i64 b]) ∧ Below w.heap.size w w') ∧
    (∀ w : World, Laid w → Calls Tryz.prog 13 #[.string s] w fun e w' => e = .returned (.tuple #[.int .u64 (a : Nat), .bool c]) ∧ Below w.heap.size w w') := by
  by_cases h0 : s.size = 0
  · have he : s = ⟨#[]⟩ := by
      apply ByteArray.ext
      exact Array.size_eq_zero_iff.1 h0
    have hp : parN s = 0 ∧ parE s = 0 := by
      rw [he]; exact par_tok (n := 0) (by decide)
    refine ⟨0, 0, true, .inl ⟨rfl, rfl⟩, fun w h => ?_, fun w h => ?_⟩
    · have := par_any hs h
      rw [hp.1, hp.2] at this; exact this
    · rw [he]; exact rempty_any w
  · by_cases h : parE s = 0
    · refine ⟨parN s, 0, true, .inl ⟨rfl, rfl⟩, fun w hl => ?_, fun w hl => ?_⟩
      · have := par_any hs hl
        rw [h] at this; exact this
      · have := rparse_any tokB s hs w hl (fun n w h0 hn hl => rtok_any h0 hn hl) h0
        rw [rans_ok h0 h] at this; exact this
    · refine ⟨0, 310, false, .inr ⟨rfl, rfl, rfl⟩, fun w hl => ?_, fun w hl => ?_⟩
      · have := par_any hs hl
        rw [par_no h, par_err h] at this; exact this
      · have := rparse_any tokB s hs w hl (fun n w h0 hn hl => rtok_any h0 hn hl) h0
        rw [rans_no h] at this; exact this

theorem tokens_over (n : Nat) (s : ByteArray) (hn : n < 18446744073709551616) (hb : 1099511627776 < n) {w : World} (h : Laid w)
    (HW : Hid (∀ w : World, Laid w → Calls Tryz.prog 9 #[] w fun e w' => e = .returned (.bool true) ∧ Below w.heap.size w w'))
    (a : Nat) (b : Int) (c : Bool) (hbc : (b = 0 ∧ c = true) ∨ (a = 0 ∧ b = 310 ∧ c = false))
    (HP : Hid (∀ w : World, Laid w → Calls Tryz.prog 12 #[.string (s.extract 0 (min ((s.size : Nat) : Int) 100).toNat)] w fun e w' => e = .returned (.tuple #[.int .u64 (a : Nat), .int .i64 b]) ∧ Below w.heap.size w w'))
    (HR : Hid (∀ w : World, Laid w → Calls Tryz.prog 13 #[.string (s.extract 0 (min ((s.size : Nat) : Int) 100).toNat)] w fun e w' => e = .returned (.tuple #[.int .u64 (a : Nat), .bool c]) ∧ Below w.heap.size w w')) :
    Calls Tryz.prog 3 #[.int .u64 (n : Int), .string s] w fun e w' => e = .returned (.bool true) ∧ Below w.heap.size w w' := by
  have hbi : (1099511627776 : Int) < n := by omega
  have ht : ∀ w : World, Laid w → Calls Tryz.prog 10 #[.int .u64 (n : Int)] w fun e w' => e = .returned (.tuple #[.string ⟨#[]⟩, .int .i64 2]) ∧ Below w.heap.size w w' := fun w h => by
    have := token_any hn h
    have e1 : tokB n = ⟨#[]⟩ := by unfold tokB; rw [if_pos (.inl hb)]
    have e2 : errN n = 2 := by unfold errN; rw [if_pos hb]
    rwa [e1, e2] at this
  have HT := Lib.hid ht
  clear ht hn hb
  rcases hbc with ⟨rfl, rfl⟩ | ⟨rfl, rfl, rfl⟩

  · go_enter Tryz.func3, Tryz.ntmps3
    go_wp2_with first
      | (with_reducible refine (HW.out _ h).mono ?_; rintro e w1 ⟨rfl, hb1⟩; have hl1 := h.below hb1)
      | (with_reducible refine (HT.out _ hl1).mono ?_; rintro e w2 ⟨rfl, hb2⟩; have hl2 := hl1.below hb2)
      | (with_reducible refine (HP.out _ hl2).mono ?_; rintro e w3 ⟨rfl, hb3⟩; have hl3 := hl2.below hb3)
      | (with_reducible refine (HR.out _ hl3).mono ?_; rintro e w4 ⟨rfl, hb4⟩; have hl4 := hl3.below hb4)
      | fail
    go_ret
    exact ⟨rfl, (((hb1).trans (hb2.mono (hb1.size))).trans (hb3.mono (Nat.le_trans (hb1.size) hb2.size))).trans (hb4.mono (Nat.le_trans (Nat.le_trans (hb1.size) hb2.size) hb3.size))⟩
  · go_enter Tryz.func3, Tryz.ntmps3
    go_wp2_with first
      | (with_reducible refine (HW.out _ h).mono ?_; rintro e w1 ⟨rfl, hb1⟩; have hl1 := h.below hb1)
      | (with_reducible refine (HT.out _ hl1).mono ?_; rintro e w2 ⟨rfl, hb2⟩; have hl2 := hl1.below hb2)
      | (with_reducible refine (HP.out _ hl2).mono ?_; rintro e w3 ⟨rfl, hb3⟩; have hl3 := hl2.below hb3)
      | (with_reducible refine (HR.out _ hl3).mono ?_; rintro e w4 ⟨rfl, hb4⟩; have hl4 := hl3.below hb4)
      | fail
    go_ret
    exact ⟨rfl, (((hb1).trans (hb2.mono (hb1.size))).trans (hb3.mono (Nat.le_trans (hb1.size) hb2.size))).trans (hb4.mono (Nat.le_trans (Nat.le_trans (hb1.size) hb2.size) hb3.size))⟩
theorem tokens_in (n : Nat) (s : ByteArray) (T : ByteArray) (hb : n ≤ 1099511627776) {w : World} (h : Laid w)
    (HW : Hid (∀ w : World, Laid w → Calls Tryz.prog 9 #[] w fun e w' => e = .returned (.bool true) ∧ Below w.heap.size w w'))
    (HT : Hid (∀ w : World, Laid w → Calls Tryz.prog 10 #[.int .u64 (n : Int)] w fun e w' => e = .returned (.tuple #[.string T, .int .i64 0]) ∧ Below w.heap.size w w'))
    (HU : Hid (∀ w : World, Laid w → Calls Tryz.prog 11 #[.int .u64 (n : Int)] w fun e w' => e = .returned (.string T) ∧ Below w.heap.size w w'))
    (a : Nat) (b : Int) (c : Bool) (hbc : (b = 0 ∧ c = true) ∨ (a = 0 ∧ b = 310 ∧ c = false))
    (HP : Hid (∀ w : World, Laid w → Calls Tryz.prog 12 #[.string (s.extract 0 (min ((s.size : Nat) : Int) 100).toNat)] w fun e w' => e = .returned (.tuple #[.int .u64 (a : Nat), .int .i64 b]) ∧ Below w.heap.size w w'))
    (HR : Hid (∀ w : World, Laid w → Calls Tryz.prog 13 #[.string (s.extract 0 (min ((s.size : Nat) : Int) 100).toNat)] w fun e w' => e = .returned (.tuple #[.int .u64 (a : Nat), .bool c]) ∧ Below w.heap.size w w')) :
    Calls Tryz.prog 3 #[.int .u64 (n : Int), .string s] w fun e w' => e = .returned (.bool true) ∧ Below w.heap.size w w' := by
  have hbi : (n : Int) ≤ 1099511627776 := by omega
  clear hb
  rcases hbc with ⟨rfl, rfl⟩ | ⟨rfl, rfl, rfl⟩

  · go_enter Tryz.func3, Tryz.ntmps3
    go_wp2_with first
      | (with_reducible refine (HW.out _ h).mono ?_; rintro e w1 ⟨rfl, hb1⟩; have hl1 := h.below hb1)
      | (with_reducible refine (HT.out _ hl1).mono ?_; rintro e w2 ⟨rfl, hb2⟩; have hl2 := hl1.below hb2)
      | (with_reducible refine (HU.out _ hl2).mono ?_; rintro e w3 ⟨rfl, hb3⟩; have hl3 := hl2.below hb3)
      | (with_reducible refine (HP.out _ hl3).mono ?_; rintro e w4 ⟨rfl, hb4⟩; have hl4 := hl3.below hb4)
      | (with_reducible refine (HR.out _ hl4).mono ?_; rintro e w5 ⟨rfl, hb5⟩; have hl5 := hl4.below hb5)
      | fail
    go_ret
    exact ⟨rfl, ((((hb1).trans (hb2.mono (hb1.size))).trans (hb3.mono (Nat.le_trans (hb1.size) hb2.size))).trans (hb4.mono (Nat.le_trans (Nat.le_trans (hb1.size) hb2.size) hb3.size))).trans (hb5.mono (Nat.le_trans (Nat.le_trans (Nat.le_trans (hb1.size) hb2.size) hb3.size) hb4.size))⟩
  · go_enter Tryz.func3, Tryz.ntmps3
    go_wp2_with first
      | (with_reducible refine (HW.out _ h).mono ?_; rintro e w1 ⟨rfl, hb1⟩; have hl1 := h.below hb1)
      | (with_reducible refine (HT.out _ hl1).mono ?_; rintro e w2 ⟨rfl, hb2⟩; have hl2 := hl1.below hb2)
      | (with_reducible refine (HU.out _ hl2).mono ?_; rintro e w3 ⟨rfl, hb3⟩; have hl3 := hl2.below hb3)
      | (with_reducible refine (HP.out _ hl3).mono ?_; rintro e w4 ⟨rfl, hb4⟩; have hl4 := hl3.below hb4)
      | (with_reducible refine (HR.out _ hl4).mono ?_; rintro e w5 ⟨rfl, hb5⟩; have hl5 := hl4.below hb5)
      | fail
    go_ret
    exact ⟨rfl, ((((hb1).trans (hb2.mono (hb1.size))).trans (hb3.mono (Nat.le_trans (hb1.size) hb2.size))).trans (hb4.mono (Nat.le_trans (Nat.le_trans (hb1.size) hb2.size) hb3.size))).trans (hb5.mono (Nat.le_trans (Nat.le_trans (Nat.le_trans (hb1.size) hb2.size) hb3.size) hb4.size))⟩
theorem tokens_any (n : Nat) (s : ByteArray) (hn : n < 18446744073709551616) {w : World} (h : Laid w) : Calls Tryz.prog 3 #[.int .u64 (n : Int), .string s] w fun e w' => e = .returned (.bool true) ∧ Below w.heap.size w w' := by
  have hsz : (s.extract 0 (min ((s.size : Nat) : Int) 100).toNat).size ≤ 100 := by
    rw [ByteArray.size_extract]; omega
  obtain ⟨a, b, c, hbc, hp, hr⟩ := both_any hsz
  have HW : Hid (∀ w : World, Laid w → Calls Tryz.prog 9 #[] w fun e w' => e = .returned (.bool true) ∧ Below w.heap.size w w') := Lib.hid fun w h => wakes_any h
  by_cases hb : 1099511627776 < n
  · exact tokens_over n s hn hb h HW a b c hbc (Lib.hid hp) (Lib.hid hr)
  · have he0 : errN n = 0 := by unfold errN; rw [if_neg hb]
    have ht : ∀ w : World, Laid w → Calls Tryz.prog 10 #[.int .u64 (n : Int)] w fun e w' => e = .returned (.tuple #[.string (tokB n), .int .i64 0]) ∧ Below w.heap.size w w' := fun w h => by
      have := token_any hn h
      rwa [he0] at this
    by_cases h0 : n = 0
    · subst h0
      exact tokens_in 0 s (tokB 0) (by omega) h HW (Lib.hid ht) (Lib.hid fun w _ => rtok0_any w) a b c hbc (Lib.hid hp) (Lib.hid hr)
    · exact tokens_in n s (tokB n) (by omega) h HW (Lib.hid ht) (Lib.hid fun w hl => rtok_any h0 (by omega) hl) a b c hbc (Lib.hid hp) (Lib.hid hr)
end Go.Proofs.YtkgapncajjafoaaGreatDoor
