/- The reference's Token: its walk. -/
import Derived.Test.YtkgapncajjafoaaGreatDoorRPar
import Derived.Test.YtkgapncajjafoaaGreatDoorRHigh
set_option maxRecDepth 100000
namespace Go.Proofs.YtkgapncajjafoaaGreatDoor
open Go.RowKit
theorem hexL_snoc : ∀ (k n : Nat), hexL n (k + 1) = hexL (n / 16) k ++ [hexB (n % 16)]
  | 0, n => by simp [hexL]
  | k + 1, n => by
    have ih := hexL_snoc k n
    rw [hexL, ih, hexL]
    rw [Go.Proofs.YtkgapncajjafoaaGreatDoor.div16]
    rfl
theorem hexR_eq : ∀ (k n : Nat), hexR n k = hexL n k
  | 0, n => rfl
  | k + 1, n => by
    rw [hexL_snoc, hexR, hexR_eq k]; rfl
theorem cat3 (x y : List UInt8) : ((⟨⟨x⟩⟩ : ByteArray) ++ ⟨#[46]⟩ ++ ⟨⟨y⟩⟩) = ⟨⟨x ++ 46 :: y⟩⟩ := by
  have h1 : ((⟨⟨x⟩⟩ : ByteArray) ++ ⟨#[46]⟩) = ⟨(x ++ [46]).toArray⟩ := ByteArray.mk_append_mk x [46]
  have h2 : ((⟨(x ++ [46]).toArray⟩ : ByteArray) ++ ⟨⟨y⟩⟩) = ⟨(x ++ [46] ++ y).toArray⟩ := ByteArray.mk_append_mk (x ++ [46]) y
  rw [h1, h2, List.append_assoc]
  rfl
set_option maxHeartbeats 2000000 in
theorem rtok_any {n : Nat} (h0 : n ≠ 0) (hn : n ≤ 1099511627776) {w : World} (h : Laid w) : Calls Tryz.prog 11 #[.int .u64 (n : Int)] w fun e w' => e = .returned (.string (tokB n)) ∧ Below w.heap.size w w' := by
  have hm : Many n (hexN n) := hexLen_many 15 n (by omega)
  have hd := hexN_le hn
  have hd1 : 1 ≤ hexN n := hexLen_pos _ _
  have hx1 : ∀ w : World, Calls Tryz.prog 22 #[.int .u64 (n : Int), .int .i64 (hexN n : Nat)] w fun e w' => e = .returned (.string ⟨⟨hexR n (hexN n)⟩⟩) ∧ Below w.heap.size w w' := fun w => hex_any _ n w (by omega) (by omega)
  have hx2 : ∀ w : World, Calls Tryz.prog 22 #[.int .u64 (crcN n : Nat), .int .i64 8] w fun e w' => e = .returned (.string ⟨⟨hexR (crcN n) 8⟩⟩) ∧ Below w.heap.size w w' := fun w => hex_any 8 (crcN n) w (by omega) (by have := crcN_lt n; omega)
  have hhi : ∀ w : World, Laid w → Calls Tryz.prog 24 #[.int .u64 (n : Int), .int .i64 8] w fun e w' => ∃ B c, e = .returned (.slice (some ⟨B, 0, none⟩) 8 c) ∧ (∀ (j : Nat) (x : Nat), (bytes8 n)[j]? = some x → w'.cell? ⟨B, 0 + j, none⟩ = some (.int .u8 (x : Int))) ∧ Below w.heap.size w w' := fun w h => high_any (by omega) h
  have hmo : ∀ (B c : Nat) (w : World), (∀ (j : Nat) (x : Nat), (bytes8 n)[j]? = some x → w.cell? ⟨B, 0 + j, none⟩ = some (.int .u8 (x : Int))) → Calls Tryz.prog 23 #[.int .u32 0, .slice (some ⟨B, 0, none⟩) 8 c] w fun e w' => e = .returned (.int .u32 (crcN n : Nat)) ∧ w' = w := fun B c w hc => rmore_any (bytes8 n) B 0 c w (bytes8_lt n) (by show 8 < 1000000; decide) hc
  have hc := crcN_lt n
  have hres : tokB n = ⟨⟨hexR n (hexN n) ++ 46 :: hexR (crcN n) 8⟩⟩ := by
    unfold tokB tokS
    rw [if_neg (by omega), hexR_eq, hexR_eq, show c64 (crcN n) = crcN n from Nat.mod_eq_of_lt (by omega)]
  have hz1 : (⟨⟨hexR n (hexN n)⟩⟩ : ByteArray).size = hexN n := hexR_length _ _
  have hz2 : (⟨⟨hexR (crcN n) 8⟩⟩ : ByteArray).size = 8 := hexR_length _ _
  have HX1 := Lib.hid hx1
  have HX2 := Lib.hid hx2
  have HH := Lib.hid hhi
  have HMO := Lib.hid hmo
  have Hres := Lib.hid hres
  have HM := Lib.hid hm
  have HLd := Lib.hid h
  rw [Hres.out]
  clear hx1 hx2 hhi hmo hres hm h
  generalize hexR n (hexN n) = l1 at *
  generalize hexR (crcN n) 8 = l2 at *
  generalize crcN n = c at *
  generalize hexN n = d at *
  have hni : ¬ (n : Int) = 0 := by omega
  go_enter Tryz.func11, Tryz.ntmps11
  go_wp2
  go_loopw [3, 4] (fun v i wr => ∃ j : Nat, j ≤ d ∧ v = .int .i64 (j : Int) ∧ i = .int .u64 (n / 2 ^ (4 * j) : Nat) ∧ wr = w) (fun v _ _ => d - (intOf v).toNat)
  case atStart => exact ⟨0, Nat.zero_le _, rfl, by simp, rfl⟩
  case round =>
    obtain ⟨j, hj, rfl, rfl, rfl⟩ := hrel
    have hr : n / 2 ^ (4 * j) ≤ 1099511627776 := Nat.le_trans (Nat.div_le_self _ _) hn
    have hpos : j < d → 0 < n / 2 ^ (4 * j) := fun hlt => by
      by_cases h1 : j = 0
      · subst h1; simp; omega
      · have := HM.out.lo j (by omega) hlt
        rwa [Nat.blt_eq] at this
    have hnx : n / 2 ^ (4 * (j + 1)) = n / 2 ^ (4 * j) / 16 := by
      rw [Nat.div_div_eq_div_mul, show 4 * (j + 1) = 4 * j + 4 by omega, Nat.pow_add]
    have htop : j = d → n / 2 ^ (4 * j) = 0 := fun e => by
      have h2 := HM.out.hi
      rw [← e] at h2
      rcases Nat.eq_zero_or_pos (n / 2 ^ (4 * j)) with h3 | h3
      · exact h3
      · have h4 : Nat.blt 0 (n / 2 ^ (4 * j)) = true := by rw [Nat.blt_eq]; exact h3
        rw [h4] at h2; cases h2
    have Hnx := Lib.hid hnx
    clear hnx
    generalize n / 2 ^ (4 * j) = r at *
    by_cases hlt : j < d
    · have hp := hpos hlt
      clear hpos htop
      go_wp2
      exact ⟨⟨j + 1, by omega, rfl, by rw [Hnx.out]; rfl, trivial⟩, by simp [intOf]; omega⟩
    · have hjd : j = d := by omega
      have hr0 := htop hjd
      clear hpos htop hlt Hnx hj
      subst hjd hr0
      go_wp2_with first
        | (with_reducible refine (HX1.out _).mono ?_; rintro e w1 ⟨rfl, hb1⟩)
        | (with_reducible refine (HX2.out _).mono ?_; rintro e w4 ⟨rfl, hb4⟩)
        | (with_reducible refine (HH.out _ (HLd.out.below hb1)).mono ?_; rintro e w2 ⟨B, cc, rfl, hcl, hb2⟩; have Hcl := Lib.hid hcl; clear hcl)
        | (with_reducible refine (HMO.out _ _ _ Hcl.out).mono ?_; rintro e w3 ⟨rfl, rfl⟩)
        | fail
      go_ret
      exact ⟨congrArg (fun b => Ending.returned (.string b)) (cat3 l1 l2), (hb1.trans (hb2.mono hb1.size)).trans (hb4.mono (Nat.le_trans hb1.size hb2.size))⟩
end Go.Proofs.YtkgapncajjafoaaGreatDoor
