/- FeedOne: its walk. -/
import Derived.Test.YtkgapncajjafoaaGreatDoorOne
set_option maxRecDepth 100000
namespace Go.Proofs.YtkgapncajjafoaaGreatDoor
open Go.RowKit
theorem eq_iff (a b : ByteArray) : (a.toList == b.toList) = true ↔ a = b := by
  rw [ByteArray.toList_eq, ByteArray.toList_eq, beq_iff_eq]
  exact ⟨fun h => ByteArray.ext (Array.toList_inj.mp h), fun h => by rw [h]⟩
theorem par_any {s : ByteArray} (hs : s.size ≤ 100) {w : World} (h : Laid w) : Calls Tryz.prog 12 #[.string s] w fun e w' => e = .returned (.tuple #[.int .u64 (parN s : Nat), .int .i64 (parE s)]) ∧ Below w.heap.size w w' := by
  have hit : ∀ pos, Below w.heap.size w (w.iter s pos) := fun pos => (Below.refl _ w).alloc (Nat.le_refl _) _
  refine (parse_any tokB errN (fun w w' => Below w.heap.size w w') Laid s hs w (fun pos => h.below (hit pos)) (fun n w hn hl => token_any hn hl)).mono fun e w' hh => ?_
  obtain ⟨pos, hb, rfl⟩ := hh
  refine ⟨?_, (hit pos).trans (hb.mono (hit pos).size)⟩
  simp only [eq_iff]
  unfold parN parE
  split <;> rfl
theorem par_err {s : ByteArray} (h : parE s ≠ 0) : parE s = 310 := by
  unfold parE at h ⊢
  split at h
  · exact absurd rfl h
  · rename_i hh; rw [if_neg hh]
set_option maxHeartbeats 4000000 in
theorem one_any (n : Nat) (s : ByteArray) (hn : n < 18446744073709551616) {w : World} (h : Laid w) : Calls Tryz.prog 8 #[.int .u64 (n : Int), .string s] w fun e w' => e = .returned (.bool true) ∧ Below w.heap.size w w' := by
  obtain ⟨k, hk⟩ : ∃ k, k = n % 1099511627777 := ⟨_, rfl⟩
  have hk2 : k ≤ 1099511627776 := by omega
  have hm : (n : Int) % 1099511627777 = (k : Int) := by omega
  obtain ⟨hp1, hp2⟩ := par_tok hk2
  have he0 : errN k = 0 := by unfold errN; rw [if_neg (by omega)]
  have hts := tok_size k
  have ht1 : ∀ w : World, Laid w → Calls Tryz.prog 10 #[.int .u64 ((n : Int) % 1099511627777)] w fun e w' => e = .returned (.tuple #[.string (tokB k), .int .i64 0]) ∧ Below w.heap.size w w' := fun w h => by
    have := token_any (n := k) (by omega) h
    rw [he0] at this; rw [hm]; exact this
  have hpp1 : ∀ w : World, Laid w → Calls Tryz.prog 12 #[.string (tokB k)] w fun e w' => e = .returned (.tuple #[.int .u64 ((n : Int) % 1099511627777), .int .i64 0]) ∧ Below w.heap.size w w' := fun w h => by
    have := par_any (s := tokB k) (by omega) h
    rw [hp1, hp2] at this; rw [hm]; exact this
  have Hpk := Lib.hid (And.intro hp1 (And.intro hp2 (And.intro hm (And.intro he0 hk2))))
  clear hp1 hp2 he0 hm hk2
  generalize hT : tokB k = T at *
  have HT := Lib.hid hT
  have HT1 := Lib.hid ht1
  have HP1 := Lib.hid hpp1
  have HN := Lib.hid hn
  clear hT ht1 hpp1 hk hn
  have HW : Hid (∀ w : World, Laid w → Calls Tryz.prog 9 #[] w fun e w' => e = .returned (.bool true) ∧ Below w.heap.size w w') := Lib.hid fun w h => wakes_any h
  have hsz : (s.extract 0 (min ((s.size : Nat) : Int) 100).toNat).size ≤ 100 := by
    rw [ByteArray.size_extract]; omega
  have hpp2 : ∀ w : World, Laid w → Calls Tryz.prog 12 #[.string (s.extract 0 (min ((s.size : Nat) : Int) 100).toNat)] w fun e w' => e = .returned (.tuple #[.int .u64 (parN (s.extract 0 (min ((s.size : Nat) : Int) 100).toNat) : Nat), .int .i64 (parE (s.extract 0 (min ((s.size : Nat) : Int) 100).toNat))]) ∧ Below w.heap.size w w' := fun w h => par_any hsz h
  by_cases hg : parE (s.extract 0 (min ((s.size : Nat) : Int) 100).toNat) = 0
  · obtain ⟨g1, g2⟩ := par_ok hg
    by_cases hkk : parN (s.extract 0 (min ((s.size : Nat) : Int) 100).toNat) = k
    · have hST : (s.extract 0 (min ((s.size : Nat) : Int) 100).toNat) = T := by rw [← HT.out, ← hkk]; exact g2.symm
      have hpp3 : ∀ w : World, Laid w → Calls Tryz.prog 12 #[.string (s.extract 0 (min ((s.size : Nat) : Int) 100).toNat)] w fun e w' => e = .returned (.tuple #[.int .u64 ((n : Int) % 1099511627777), .int .i64 0]) ∧ Below w.heap.size w w' := fun w h => by
        have := hpp2 w h
        rw [hg, hkk, ← Hpk.out.2.2.1] at this; exact this
      have q1 : ((s.extract 0 (min ((s.size : Nat) : Int) 100).toNat).toList == T.toList) = true := (eq_iff _ _).2 hST
      have q2 : (T.toList == (s.extract 0 (min ((s.size : Nat) : Int) 100).toNat).toList) = true := (eq_iff _ _).2 hST.symm
      have HP2 := Lib.hid hpp3
      have HT2 := HT1
      clear hpp3 hpp2 hg g1 g2 hkk hST hsz
      go_enter Tryz.func8, Tryz.ntmps8
      go_wp2_with first
        | (with_reducible refine (HW.out _ h).mono ?_; rintro e w1 ⟨rfl, hb1⟩; have hl1 := h.below hb1)
        | (with_reducible refine (HT1.out _ hl1).mono ?_; rintro e w2 ⟨rfl, hb2⟩; have hl2 := hl1.below hb2)
        | (with_reducible refine (HP1.out _ hl2).mono ?_; rintro e w3 ⟨rfl, hb3⟩; have hl3 := hl2.below hb3)
        | (with_reducible refine (HP2.out _ hl3).mono ?_; rintro e w4 ⟨rfl, hb4⟩; have hl4 := hl3.below hb4)
        | (with_reducible refine (HT2.out _ hl4).mono ?_; rintro e w5 ⟨rfl, hb5⟩)
        | fail
      go_ret
      exact ⟨rfl, (((hb1.trans (hb2.mono hb1.size)).trans (hb3.mono (Nat.le_trans hb1.size hb2.size))).trans (hb4.mono (Nat.le_trans (Nat.le_trans hb1.size hb2.size) hb3.size))).trans (hb5.mono (Nat.le_trans (Nat.le_trans (Nat.le_trans hb1.size hb2.size) hb3.size) hb4.size))⟩
    · have hkT : ¬ (s.extract 0 (min ((s.size : Nat) : Int) 100).toNat) = T := fun e => hkk (by rw [e]; exact Hpk.out.1)
      have hpp3 : ∀ w : World, Laid w → Calls Tryz.prog 12 #[.string (s.extract 0 (min ((s.size : Nat) : Int) 100).toNat)] w fun e w' => e = .returned (.tuple #[.int .u64 (parN (s.extract 0 (min ((s.size : Nat) : Int) 100).toNat) : Nat), .int .i64 0]) ∧ Below w.heap.size w w' := fun w h => by
        have := hpp2 w h
        rw [hg] at this; exact this
      have htt2 : ∀ w : World, Laid w → Calls Tryz.prog 10 #[.int .u64 (parN (s.extract 0 (min ((s.size : Nat) : Int) 100).toNat) : Nat)] w fun e w' => e = .returned (.tuple #[.string (s.extract 0 (min ((s.size : Nat) : Int) 100).toNat), .int .i64 0]) ∧ Below w.heap.size w w' := fun w h => by
        have := token_any (n := parN (s.extract 0 (min ((s.size : Nat) : Int) 100).toNat)) (by have := errN_le g1; omega) h
        rw [g1, g2] at this; exact this
      have q1 : ((s.extract 0 (min ((s.size : Nat) : Int) 100).toNat).toList == T.toList) = false := by
        cases hq : ((s.extract 0 (min ((s.size : Nat) : Int) 100).toNat).toList == T.toList) with
        | false => rfl
        | true => exact absurd ((eq_iff _ _).1 hq) hkT
      have q3 : (((parN (s.extract 0 (min ((s.size : Nat) : Int) 100).toNat) : Nat) : Int) == (n : Int) % 1099511627777) = false := by
        rw [Hpk.out.2.2.1]; simp; omega
      have HP2 := Lib.hid hpp3
      have HT2 := Lib.hid htt2
      clear hpp3 hpp2 hg g1 g2 hkk hkT hsz htt2
      generalize parN (s.extract 0 (min ((s.size : Nat) : Int) 100).toNat) = kk at *
      go_enter Tryz.func8, Tryz.ntmps8
      go_wp2_with first
        | (with_reducible refine (HW.out _ h).mono ?_; rintro e w1 ⟨rfl, hb1⟩; have hl1 := h.below hb1)
        | (with_reducible refine (HT1.out _ hl1).mono ?_; rintro e w2 ⟨rfl, hb2⟩; have hl2 := hl1.below hb2)
        | (with_reducible refine (HP1.out _ hl2).mono ?_; rintro e w3 ⟨rfl, hb3⟩; have hl3 := hl2.below hb3)
        | (with_reducible refine (HP2.out _ hl3).mono ?_; rintro e w4 ⟨rfl, hb4⟩; have hl4 := hl3.below hb4)
        | (with_reducible refine (HT2.out _ hl4).mono ?_; rintro e w5 ⟨rfl, hb5⟩)
        | fail
      go_ret
      exact ⟨rfl, (((hb1.trans (hb2.mono hb1.size)).trans (hb3.mono (Nat.le_trans hb1.size hb2.size))).trans (hb4.mono (Nat.le_trans (Nat.le_trans hb1.size hb2.size) hb3.size))).trans (hb5.mono (Nat.le_trans (Nat.le_trans (Nat.le_trans hb1.size hb2.size) hb3.size) hb4.size))⟩
  · have hkT : ¬ (s.extract 0 (min ((s.size : Nat) : Int) 100).toNat) = T := fun e => hg (by rw [e]; exact Hpk.out.2.1)
    have hpp3 : ∀ w : World, Laid w → Calls Tryz.prog 12 #[.string (s.extract 0 (min ((s.size : Nat) : Int) 100).toNat)] w fun e w' => e = .returned (.tuple #[.int .u64 0, .int .i64 310]) ∧ Below w.heap.size w w' := fun w h => by
      have := hpp2 w h
      rw [par_no hg, par_err hg] at this; exact this
    have q1 : ((s.extract 0 (min ((s.size : Nat) : Int) 100).toNat).toList == T.toList) = false := by
      cases hq : ((s.extract 0 (min ((s.size : Nat) : Int) 100).toNat).toList == T.toList) with
      | false => rfl
      | true => exact absurd ((eq_iff _ _).1 hq) hkT
    have HP2 := Lib.hid hpp3
    have HT2 := HT1
    clear hpp3 hpp2 hg hkT hsz
    go_enter Tryz.func8, Tryz.ntmps8
    go_wp2_with first
      | (with_reducible refine (HW.out _ h).mono ?_; rintro e w1 ⟨rfl, hb1⟩; have hl1 := h.below hb1)
      | (with_reducible refine (HT1.out _ hl1).mono ?_; rintro e w2 ⟨rfl, hb2⟩; have hl2 := hl1.below hb2)
      | (with_reducible refine (HP1.out _ hl2).mono ?_; rintro e w3 ⟨rfl, hb3⟩; have hl3 := hl2.below hb3)
      | (with_reducible refine (HP2.out _ hl3).mono ?_; rintro e w4 ⟨rfl, hb4⟩; have hl4 := hl3.below hb4)
      | (with_reducible refine (HT2.out _ hl4).mono ?_; rintro e w5 ⟨rfl, hb5⟩)
      | fail
    go_ret
    exact ⟨rfl, ((hb1.trans (hb2.mono hb1.size)).trans (hb3.mono (Nat.le_trans hb1.size hb2.size))).trans (hb4.mono (Nat.le_trans (Nat.le_trans hb1.size hb2.size) hb3.size))⟩
end Go.Proofs.YtkgapncajjafoaaGreatDoor
