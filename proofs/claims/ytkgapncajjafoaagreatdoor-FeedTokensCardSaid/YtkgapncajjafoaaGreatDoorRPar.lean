/- The reference's Parse: its walk. -/
import Derived.Test.YtkgapncajjafoaaGreatDoorRef
import Derived.Deep.RegionHeld3
set_option maxRecDepth 100000
namespace Go.Proofs.YtkgapncajjafoaaGreatDoor
open Go.RowKit
/-- A digit's value, as the reference seeks it among the first k; 16: none. -/
def dvK (b : Nat) : Nat → Nat
  | 0 => 16
  | k + 1 => if hexD k = b then k else dvK b k
theorem dvK_le (b : Nat) : ∀ k, k ≤ 16 → dvK b k ≤ 16
  | 0, _ => Nat.le_refl _
  | k + 1, h => by
    have := dvK_le b k (by omega)
    unfold dvK; split <;> omega
/-- The number that the reference reads off bytes. -/
def rrd : List UInt8 → Nat → Option Nat
  | [], n => some n
  | b :: l, n => if b.toNat = 46 then some n else if dvK b.toNat 16 = 16 ∨ 1099511627776 < n then none else rrd l (16 * n + dvK b.toNat 16)
theorem drop_at (s : ByteArray) (k : Nat) (h : k < s.size) : s.data.toList.drop k = (s[k]'h) :: s.data.toList.drop (k + 1) := by
  have h' : k < s.data.toList.length := by rw [Array.length_toList]; exact h
  rw [List.drop_eq_getElem_cons h']
  rfl
theorem drop_end (s : ByteArray) (k : Nat) (h : ¬ k < s.size) : s.data.toList.drop k = [] :=
  List.drop_eq_nil_of_le (by rw [Array.length_toList]; have : s.data.size = s.size := rfl; omega)
/-- What the reference's Parse answers. -/
def rans (T : Nat → ByteArray) (s : ByteArray) : Option Nat → Nat × Bool
  | none => (0, false)
  | some n => if n = 0 ∨ 1099511627776 < n then (0, false) else if ((T n).toList == s.toList) = true then (n, true) else (0, false)
set_option maxHeartbeats 4000000 in
theorem rparse_any (T : Nat → ByteArray) (s : ByteArray) (hs : s.size ≤ 100) (w : World) (hL : Laid w)
    (hT : ∀ (n : Nat) (w : World), n ≠ 0 → n ≤ 1099511627776 → Laid w → Calls Tryz.prog 11 #[.int .u64 (n : Int)] w fun e w' => e = .returned (.string (T n)) ∧ Below w.heap.size w w') (hne : ¬ s.size = 0) :
    Calls Tryz.prog 13 #[.string s] w fun e w' => e = .returned (.tuple #[.int .u64 ((rans T s (rrd s.data.toList 0)).1 : Nat), .bool (rans T s (rrd s.data.toList 0)).2]) ∧ Below w.heap.size w w' := by
  have hse : (s.toList == ([] : List UInt8)) = false := by
    rw [ByteArray.toList_eq]
    cases hq : s.data.toList with
    | nil => exact absurd (show s.data.size = 0 by rw [← Array.length_toList, hq]; rfl) hne
    | cons a l => rfl
  obtain ⟨R, hR⟩ : ∃ R, R = rrd s.data.toList 0 := ⟨_, rfl⟩
  rw [← hR]
  have HR := Lib.hid hR
  have HT := Lib.hid hT
  have HL := Lib.hid hL
  clear hR hT hL hne
  go_enter Tryz.func13, Tryz.ntmps13
  go_wp2
  go_loopw [4, 5] (fun v i wr => ∃ k n : Nat, k ≤ s.size ∧ i = .int .i64 (k : Int) ∧ v = .int .u64 (n : Nat) ∧ rrd (s.data.toList.drop k) n = R ∧ n < 281474976710656 ∧ Hid (Below w.heap.size w wr)) (fun _ i _ => s.size - (intOf i).toNat)
  case atStart => exact ⟨0, 0, Nat.zero_le _, rfl, rfl, HR.out.symm, by decide, Lib.hid (Below.refl _ _)⟩
  case round =>
    obtain ⟨k, n, hk, rfl, rfl, hc, hn, HB⟩ := hrel
    clear HR
    have HLw := Lib.hid (HL.out.below HB.out)
    by_cases hlt : k < s.size
    · obtain ⟨y, hy⟩ : ∃ y, (s[k]'hlt).toNat = y := ⟨_, rfl⟩
      have hd := drop_at s k hlt
      have hy256 : y < 256 := by rw [← hy]; exact UInt8.toNat_lt _
      rw [hd, rrd, hy] at hc
      clear hd
      by_cases h46 : y = 46
      · rw [if_pos h46] at hc
        subst h46
        by_cases hn0 : n = 0
        · have hfin : R = some n → rans T s R = (0, false) := fun e => by rw [e, rans, if_pos (.inl hn0)]
          have Hf := Lib.hid (hfin hc.symm)
          clear hfin hc
          subst hn0
          go_wp2
          go_ret2
          exact ⟨congrArg (fun p : Nat × Bool => Ending.returned (.tuple #[.int .u64 (p.1 : Nat), .bool p.2])) Hf.out.symm, HB.out⟩
        · have hi0 : ¬ (n : Int) = 0 := by omega
          by_cases hbig : 1099511627776 < n
          · have hfin : R = some n → rans T s R = (0, false) := fun e => by rw [e, rans, if_pos (.inr hbig)]
            have Hf := Lib.hid (hfin hc.symm)
            have hib : (1099511627776 : Int) < n := by omega
            clear hfin hc hn0 hbig
            go_wp2
            go_ret2
            exact ⟨congrArg (fun p : Nat × Bool => Ending.returned (.tuple #[.int .u64 (p.1 : Nat), .bool p.2])) Hf.out.symm, HB.out⟩
          · have htok := HT.out n wr hn0 (by omega) HLw.out
            have hib : (n : Int) ≤ 1099511627776 := by omega
            have hz0 : ((n : Int) == 0) = false := by simp; omega
            have Htok := Lib.hid htok
            cases hts : ((T n).toList == s.toList) with
            | true =>
              have hfin : R = some n → rans T s R = (n, true) := fun e => by rw [e, rans, if_neg (by omega), if_pos hts]
              have Hf := Lib.hid (hfin hc.symm)
              clear hfin hc hn0 hbig htok
              go_wp2_with first
                | (with_reducible refine Htok.out.mono ?_; rintro e w5 ⟨rfl, hb5⟩)
                | fail
              go_ret2
              exact ⟨congrArg (fun p : Nat × Bool => Ending.returned (.tuple #[.int .u64 (p.1 : Nat), .bool p.2])) Hf.out.symm, HB.out.trans (hb5.mono HB.out.size)⟩
            | false =>
              have hfin : R = some n → rans T s R = (0, false) := fun e => by rw [e, rans, if_neg (by omega), if_neg (by simp [hts])]
              have Hf := Lib.hid (hfin hc.symm)
              clear hfin hc hn0 hbig htok
              go_wp2_with first
                | (with_reducible refine Htok.out.mono ?_; rintro e w5 ⟨rfl, hb5⟩)
                | fail
              go_ret2
              exact ⟨congrArg (fun p : Nat × Bool => Ending.returned (.tuple #[.int .u64 (p.1 : Nat), .bool p.2])) Hf.out.symm, HB.out.trans (hb5.mono HB.out.size)⟩
      · have hi46 : ¬ (y : Int) = 46 := by omega
        rw [if_neg h46] at hc
        have Hc2 := Lib.hid hc
        have hq46 : ((y : Int) != 46) = true := by simp; omega
        have hq47 : ((y : Int) == 46) = false := by simp; omega
        clear hc h46
        go_wp2
        go_loopw [6, 7] (fun v c wr2 => ∃ m : Nat, m ≤ 16 ∧ c = .int .u32 (m : Int) ∧ v = .int .u64 (dvK y m : Nat) ∧ Hid (Below w.heap.size w wr2)) (fun _ c _ => 16 - (intOf c).toNat)
        case atStart => exact ⟨0, Nat.zero_le _, rfl, rfl, HB⟩
        case round =>
          clear HB HLw
          obtain ⟨m, hm, rfl, rfl, HB⟩ := hrel
          by_cases hm16 : m < 16
          · have hsg : ∀ w : World, Calls Tryz.prog 25 #[.int .u32 (m : Int)] w fun e w' => e = .returned (.int .u8 (hexD m : Nat)) ∧ w' = w := fun w => sign_any m hm16 w
            have HS := Lib.hid hsg
            have Hm := Lib.hid (show dvK y (m + 1) = if hexD m = y then m else dvK y m from rfl)
            clear hsg
            generalize dvK y m = d at *
            generalize hexD m = q at *
            by_cases hqy : q = y
            · have hi : (q : Int) = (y : Int) := by omega
              have hr : Value.int .u64 (m : Int) = Value.int .u64 (dvK y (m + 1) : Nat) := by rw [Hm.out, if_pos hqy]
              have Hr := Lib.hid hr
              clear hqy hr
              go_wp2
              go_region_held3 (fun _ => True) (trivial) (first | (with_reducible refine (HS.out _).mono ?_; rintro e w2 ⟨rfl, rfl⟩))
              all_goals go_wp2
              all_goals go_roundw
              all_goals first
                | exact ⟨m + 1, by omega, rfl, Hr.out, Lib.hid HB.out.drew⟩
                | (simp [intOf]; omega)
            · have hi : ¬ (q : Int) = (y : Int) := by omega
              have hr : Value.int .u64 (d : Int) = Value.int .u64 (dvK y (m + 1) : Nat) := by rw [Hm.out, if_neg hqy]
              have Hr := Lib.hid hr
              clear hqy hr
              go_wp2
              go_region_held3 (fun _ => True) (trivial) (first | (with_reducible refine (HS.out _).mono ?_; rintro e w2 ⟨rfl, rfl⟩))
              all_goals go_wp2
              all_goals go_roundw
              all_goals first
                | exact ⟨m + 1, by omega, rfl, Hr.out, Lib.hid HB.out.drew⟩
                | (simp [intOf]; omega)
          · have hme : m = 16 := by omega
            have hdl := dvK_le y m (by omega)
            have Hd := Lib.hid (show dvK y m = dvK y 16 by rw [hme])
            have Hm16 := Lib.hid hme
            clear hme
            have Hc3 : Hid ((if dvK y m = 16 ∨ 1099511627776 < n then none else rrd (List.drop (k + 1) s.data.toList) (16 * n + dvK y m)) = R) := Lib.hid (by rw [Hd.out]; exact Hc2.out)
            clear Hc2 Hd
            generalize dvK y m = d at *
            by_cases hbad : d = 16 ∨ 1099511627776 < n
            · have hR0 : R = none := by have := Hc3.out; rw [if_pos hbad] at this; exact this.symm
              have Hf := Lib.hid (show rans T s R = (0, false) by rw [hR0]; rfl)
              clear Hc3 hR0
              by_cases hd16 : d = 16
              · subst hd16
                clear hbad
                go_wp2
                go_ret2
                exact ⟨congrArg (fun p : Nat × Bool => Ending.returned (.tuple #[.int .u64 (p.1 : Nat), .bool p.2])) Hf.out.symm, HB.out⟩
              · have hib : (1099511627776 : Int) < n := by omega
                have hid : ¬ (d : Int) = 16 := by omega
                have hd16b : ((d : Int) == 16) = false := by simp; omega
                clear hbad hd16
                go_wp2
                go_ret2
                exact ⟨congrArg (fun p : Nat × Bool => Ending.returned (.tuple #[.int .u64 (p.1 : Nat), .bool p.2])) Hf.out.symm, HB.out⟩
            · have hRn : rrd (List.drop (k + 1) s.data.toList) (16 * n + d) = R := by have := Hc3.out; rw [if_neg hbad] at this; exact this
              have Hf := Lib.hid hRn
              have hib : (n : Int) ≤ 1099511627776 := by omega
              have hid : ¬ (d : Int) = 16 := by omega
              have hnn : 16 * n + d < 281474976710656 := by omega
              have Hnn := Lib.hid hnn
              clear hbad Hc3 hRn hnn
              have hd16b : ((d : Int) == 16) = false := by simp; omega
              go_wp2
              exact ⟨⟨k + 1, 16 * n + d, by omega, rfl, rfl, Hf.out, Hnn.out, HB⟩, by simp [intOf]; omega⟩
    · rw [drop_end s k hlt, rrd] at hc
      by_cases hn0 : n = 0
      · have hfin : R = some n → rans T s R = (0, false) := fun e => by rw [e, rans, if_pos (.inl hn0)]
        have Hf := Lib.hid (hfin hc.symm)
        clear hfin hc
        subst hn0
        go_wp2
        go_ret2
        exact ⟨congrArg (fun p : Nat × Bool => Ending.returned (.tuple #[.int .u64 (p.1 : Nat), .bool p.2])) Hf.out.symm, HB.out⟩
      · have hi0 : ¬ (n : Int) = 0 := by omega
        by_cases hbig : 1099511627776 < n
        · have hfin : R = some n → rans T s R = (0, false) := fun e => by rw [e, rans, if_pos (.inr hbig)]
          have Hf := Lib.hid (hfin hc.symm)
          have hib : (1099511627776 : Int) < n := by omega
          clear hfin hc hn0 hbig
          go_wp2
          go_ret2
          exact ⟨congrArg (fun p : Nat × Bool => Ending.returned (.tuple #[.int .u64 (p.1 : Nat), .bool p.2])) Hf.out.symm, HB.out⟩
        · have htok := HT.out n wr hn0 (by omega) HLw.out
          have hib : (n : Int) ≤ 1099511627776 := by omega
          have hz0 : ((n : Int) == 0) = false := by simp; omega
          have Htok := Lib.hid htok
          cases hts : ((T n).toList == s.toList) with
          | true =>
            have hfin : R = some n → rans T s R = (n, true) := fun e => by rw [e, rans, if_neg (by omega), if_pos hts]
            have Hf := Lib.hid (hfin hc.symm)
            clear hfin hc hn0 hbig htok
            go_wp2_with first
              | (with_reducible refine Htok.out.mono ?_; rintro e w5 ⟨rfl, hb5⟩)
              | fail
            go_ret2
            exact ⟨congrArg (fun p : Nat × Bool => Ending.returned (.tuple #[.int .u64 (p.1 : Nat), .bool p.2])) Hf.out.symm, HB.out.trans (hb5.mono HB.out.size)⟩
          | false =>
            have hfin : R = some n → rans T s R = (0, false) := fun e => by rw [e, rans, if_neg (by omega), if_neg (by simp [hts])]
            have Hf := Lib.hid (hfin hc.symm)
            clear hfin hc hn0 hbig htok
            go_wp2_with first
              | (with_reducible refine Htok.out.mono ?_; rintro e w5 ⟨rfl, hb5⟩)
              | fail
            go_ret2
            exact ⟨congrArg (fun p : Nat × Bool => Ending.returned (.tuple #[.int .u64 (p.1 : Nat), .bool p.2])) Hf.out.symm, HB.out.trans (hb5.mono HB.out.size)⟩
end Go.Proofs.YtkgapncajjafoaaGreatDoor
