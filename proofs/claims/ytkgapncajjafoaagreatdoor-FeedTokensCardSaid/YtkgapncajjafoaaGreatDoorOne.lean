/- FeedOne: the plain law, and its walk. -/
import Derived.Test.YtkgapncajjafoaaGreatDoorTok2
import Derived.Test.YtkgapncajjafoaaGreatDoorParse
import Derived.Test.YtkgapncajjafoaaGreatDoorWakes
set_option linter.all false
set_option maxRecDepth 100000
namespace Go.Proofs.YtkgapncajjafoaaGreatDoor
open Go Go.Eng
/-! ### a token is read back -/
theorem hexD_cases (c : Nat) (h : c < 16) : (48 ≤ hexD c ∧ hexD c ≤ 57 ∧ hexD c = 48 + c) ∨ (97 ≤ hexD c ∧ hexD c ≤ 102 ∧ hexD c = 87 + c) := by
  unfold hexD; split
  · left; omega
  · right; omega
theorem hexB_nat (c : Nat) (h : c < 16) : (hexB c).toNat = hexD c := by
  have : hexD c < 256 := by rcases hexD_cases c h with h | h <;> omega
  show (UInt8.ofNat (hexD c)).toNat = _
  rw [UInt8.toNat_ofNat']
  exact Nat.mod_eq_of_lt this
theorem rstep_hex (n c : Nat) (h : c < 16) : rstep n (hexD c) = n * 16 + c := by
  unfold rstep
  rcases hexD_cases c h with ⟨h1, h2, h3⟩ | ⟨h1, h2, h3⟩
  · rw [if_pos ⟨h1, h2⟩]; omega
  · rw [if_neg (by omega), if_pos ⟨h1, h2⟩]; omega
theorem size_of (l : List UInt8) : (⟨⟨l⟩⟩ : ByteArray).size = l.length := rfl
theorem get_of (l : List UInt8) (i : Nat) (h : i < (⟨⟨l⟩⟩ : ByteArray).size) : (⟨⟨l⟩⟩ : ByteArray)[i]'h = l[i]'h := rfl
/-- A byte below 128 is read. -/
theorem pread_byte {l : List UInt8} {pos f n : Nat} {b : UInt8} (hb : l[pos]? = some b) (h : b.toNat < 128) :
    pread ⟨⟨l⟩⟩ (f + 1) pos n = if b.toNat = 46 ∨ 11 < pos then n else pread ⟨⟨l⟩⟩ f (pos + 1) (rstep n b.toNat) := by
  obtain ⟨hlt, hbb⟩ := List.getElem?_eq_some_iff.1 hb
  have hlt' : pos < (⟨⟨l⟩⟩ : ByteArray).size := hlt
  have hd : Utf8.decode ⟨⟨l⟩⟩ pos = (b.toNat, 1) := by
    rw [decode_ascii _ pos hlt' (by rw [get_of, hbb]; exact h), get_of, hbb]
  rw [pread, if_pos hlt', hd]
theorem hexL_get : ∀ (n k j : Nat) (tail : List UInt8), j < k → (hexL n k ++ tail)[j]? = some (hexB (n / 2 ^ (4 * (k - 1 - j)) % 16))
  | n, k + 1, 0, tail, _ => by simp [hexL]
  | n, k + 1, j + 1, tail, h => by
    have := hexL_get n k j tail (by omega)
    rw [show k + 1 - 1 - (j + 1) = k - 1 - j by omega]
    simpa [hexL] using this
theorem hexL_length : ∀ (n k : Nat), (hexL n k).length = k
  | n, 0 => rfl
  | n, k + 1 => by simp [hexL, hexL_length n k]
theorem step16 (n k : Nat) : n / 2 ^ (4 * (k + 1)) * 16 + n / 2 ^ (4 * k) % 16 = n / 2 ^ (4 * k) := by
  have h : n / 2 ^ (4 * (k + 1)) = n / 2 ^ (4 * k) / 16 := by
    rw [Nat.div_div_eq_div_mul, show 4 * (k + 1) = 4 * k + 4 by omega, Nat.pow_add]
  rw [h]; omega
theorem pread_hex {n d : Nat} {tail : List UInt8} (hd : d ≤ 11) : ∀ (j f : Nat), j ≤ d → d + 1 ≤ f + j → pread ⟨⟨hexL n d ++ 46 :: tail⟩⟩ f j (n / 2 ^ (4 * (d - j))) = n
  | j, f, hj, hf => by
    by_cases he : j = d
    · subst he
      obtain ⟨g, rfl⟩ : ∃ g, f = g + 1 := ⟨f - 1, by omega⟩
      rw [pread_byte (b := 46) (by rw [List.getElem?_append_right (by rw [hexL_length]; exact Nat.le_refl _), hexL_length, Nat.sub_self]; rfl) (by decide), if_pos (.inl rfl)]
      simp
    · obtain ⟨g, rfl⟩ : ∃ g, f = g + 1 := ⟨f - 1, by omega⟩
      have hc : n / 2 ^ (4 * (d - 1 - j)) % 16 < 16 := Nat.mod_lt _ (by decide)
      have hb := hexD_cases _ hc
      rw [pread_byte (hexL_get n d j _ (by omega)) (by rw [hexB_nat _ hc]; omega), hexB_nat _ hc, if_neg (by omega), rstep_hex _ _ hc]
      have e : n / 2 ^ (4 * (d - j)) * 16 + n / 2 ^ (4 * (d - 1 - j)) % 16 = n / 2 ^ (4 * (d - (j + 1))) := by
        have := step16 n (d - (j + 1))
        rw [show d - (j + 1) + 1 = d - j by omega] at this
        rw [show d - 1 - j = d - (j + 1) by omega]
        exact this
      rw [e]
      exact pread_hex hd (j + 1) g (by omega) (by omega)
  termination_by j => d - j
theorem hexN_le {n : Nat} (h : n ≤ 1099511627776) : hexN n ≤ 11 := by
  rcases Nat.lt_or_ge 11 (hexN n) with h8 | h8
  · have := (hexLen_many 15 n (by omega)).lo 11 (by decide) h8
    rw [Nat.blt_eq] at this
    have : n / 2 ^ (4 * 11) = 0 := Nat.div_eq_of_lt (by omega)
    omega
  · exact h8
theorem hexN_top {n : Nat} (h : n ≤ 1099511627776) : n / 2 ^ (4 * hexN n) = 0 := by
  have := (hexLen_many 15 n (by omega)).hi
  rcases Nat.eq_zero_or_pos (n / 2 ^ (4 * hexN n)) with h0 | h0
  · exact h0
  · have h1 : Nat.blt 0 (n / 2 ^ (4 * hexN n)) = true := by rw [Nat.blt_eq]; exact h0
    have h2 : Nat.blt 0 (n / 2 ^ (4 * hexN n)) = false := this
    rw [h1] at h2; cases h2
/-- What is read off a number's token is the number. -/
theorem pread_tok {n : Nat} (h : n ≤ 1099511627776) : pread (tokB n) (tokB n).size 0 0 = n := by
  by_cases h0 : n = 0
  · subst h0; rfl
  · have e : tokB n = ⟨⟨hexL n (hexN n) ++ 46 :: hexL (c64 (crcN n)) 8⟩⟩ := by unfold tokB; rw [if_neg (by omega)]; rfl
    rw [e, size_of]
    have := pread_hex (n := n) (d := hexN n) (tail := hexL (c64 (crcN n)) 8) (hexN_le h) 0 (hexL n (hexN n) ++ 46 :: hexL (c64 (crcN n)) 8).length (by omega) (by simp [hexL_length])
    rw [Nat.sub_zero, hexN_top h] at this
    exact this
theorem tok_size (n : Nat) : (tokB n).size ≤ 20 := by
  unfold tokB
  split
  · exact Nat.zero_le _
  · rename_i h
    have := hexN_le (n := n) (by omega)
    show (hexL n (hexN n) ++ 46 :: hexL (c64 (crcN n)) 8).length ≤ 20
    simp [hexL_length]; omega
/-- Parse's number and error. -/
def parN (s : ByteArray) : Nat := if errN (pread s s.size 0 0) = 0 ∧ tokB (pread s s.size 0 0) = s then pread s s.size 0 0 else 0
def parE (s : ByteArray) : Int := if errN (pread s s.size 0 0) = 0 ∧ tokB (pread s s.size 0 0) = s then 0 else 310
theorem par_tok {n : Nat} (h : n ≤ 1099511627776) : parN (tokB n) = n ∧ parE (tokB n) = 0 := by
  have e := pread_tok h
  have e2 : errN n = 0 := by unfold errN; rw [if_neg (by omega)]
  unfold parN parE
  rw [e, e2]; simp
theorem par_ok {s : ByteArray} (h : parE s = 0) : errN (parN s) = 0 ∧ tokB (parN s) = s := by
  unfold parE at h
  unfold parN
  split at h
  · rename_i hh; rw [if_pos hh]; exact hh
  · cases h
theorem par_no {s : ByteArray} (h : parE s ≠ 0) : parN s = 0 := by
  unfold parE at h
  unfold parN
  split at h
  · exact absurd rfl h
  · rename_i hh; rw [if_neg hh]
theorem errN_le {k : Nat} (h : errN k = 0) : k ≤ 1099511627776 := by
  unfold errN at h
  split at h
  · cases h
  · omega
end Go.Proofs.YtkgapncajjafoaaGreatDoor
