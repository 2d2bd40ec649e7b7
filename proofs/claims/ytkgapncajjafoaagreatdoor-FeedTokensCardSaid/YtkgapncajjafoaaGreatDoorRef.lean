/- The references' functions on numbers: Sign, Bit, hex, Take, More. -/
import Derived.Test.YtkgapncajjafoaaGreatDoorOneW
import Derived.Laws.BytesString
import Derived.Laws.Concat
set_option maxRecDepth 100000
namespace Go.Proofs.YtkgapncajjafoaaGreatDoor
open Go.RowKit
theorem sign_any (c : Nat) (hc : c < 16) (w : World) : Calls Tryz.prog 25 #[.int .u32 (c : Int)] w fun e w' => e = .returned (.int .u8 (hexD c : Nat)) ∧ w' = w := by
  by_cases h : (c : Int) < 10
  · have e : hexD c = 48 + c := by unfold hexD; rw [if_pos (by omega)]
    have e2 : ((hexD c : Nat) : Int) = 48 + (c : Int) := by omega
    have He := Lib.hid e2
    clear e e2
    go_enter Tryz.func25, Tryz.ntmps25
    go_wp2
    go_ret
    exact ⟨congrArg (fun v : Int => Ending.returned (.int .u8 v)) He.out.symm, rfl⟩
  · have h : (10 : Int) ≤ c := by omega
    have e : hexD c = 87 + c := by unfold hexD; rw [if_neg (by omega)]
    have e2 : ((hexD c : Nat) : Int) = 97 + ((c : Int) - 10) := by omega
    have He := Lib.hid e2
    clear e e2
    go_enter Tryz.func25, Tryz.ntmps25
    go_wp2
    go_ret
    exact ⟨congrArg (fun v : Int => Ending.returned (.int .u8 v)) He.out.symm, rfl⟩
/-- A bit taken in. -/
def bitN (s x : Nat) : Nat := if s % 2 = x then s / 2 else (s / 2) ^^^ 2197175160
theorem bitN_lt {s x : Nat} (h : s < 4294967296) : bitN s x < 4294967296 := by
  unfold bitN; split
  · omega
  · exact Nat.xor_lt_two_pow (n := 32) (by omega) (by decide)
theorem bit_any (s x : Nat) (hs : s < 4294967296) (w : World) : Calls Tryz.prog 50 #[.int .u32 (s : Int), .int .u32 (x : Int)] w fun e w' => e = .returned (.int .u32 (bitN s x : Nat)) ∧ w' = w := by
  have hxo : bits .xor .u32 ((s : Int) / 2) 2197175160 = ((s / 2 ^^^ 2197175160 : Nat) : Int) := u32_xor_nat (s / 2) 2197175160 (by omega) (by decide)
  by_cases h : s % 2 = x
  · have h2 : (s : Int) % 2 = x := by omega
    have e : ((bitN s x : Nat) : Int) = (s : Int) / 2 := by unfold bitN; rw [if_pos h]; omega
    have He := Lib.hid e
    clear e h hxo
    go_enter Tryz.func50, Tryz.ntmps50
    go_wp2
    go_ret
    exact ⟨congrArg (fun v : Int => Ending.returned (.int .u32 v)) He.out.symm, rfl⟩
  · have h2 : ¬ (s : Int) % 2 = x := by omega
    have e : ((bitN s x : Nat) : Int) = ((s / 2 ^^^ 2197175160 : Nat) : Int) := by unfold bitN; rw [if_neg h]
    have He := Lib.hid e
    clear e h
    go_enter Tryz.func50, Tryz.ntmps50
    go_wp2
    go_ret
    exact ⟨congrArg (fun v : Int => Ending.returned (.int .u32 v)) He.out.symm, rfl⟩
/-- The digits from the highest on, by the reference's recursion. -/
def hexR (n : Nat) : Nat → List UInt8
  | 0 => []
  | k + 1 => hexR (n / 16) k ++ [UInt8.ofNat (hexD (n % 16))]
theorem hexR_length : ∀ (k n : Nat), (hexR n k).length = k
  | 0, n => rfl
  | k + 1, n => by simp [hexR, hexR_length k]
theorem conv1 (w : World) (d : Nat) : (convert 34 9 (.slice (some ⟨w.heap.size, 0, none⟩) 1 1)).run Tryz.prog (w.alloc (.cells #[.int .u8 (d : Int)] 5)) = .ok (.string ⟨⟨[UInt8.ofNat d]⟩⟩) (w.alloc (.cells #[.int .u8 (d : Int)] 5)) := by
  have hl : (loadCells ⟨w.heap.size, 0, none⟩ 1).run Tryz.prog (w.alloc (.cells #[.int .u8 (d : Int)] 5)) = .ok (([(d : Int)].map (Value.int .u8)).toArray) (w.alloc (.cells #[.int .u8 (d : Int)] 5)) := by
    refine run_loadCells_list (P := Tryz.prog) _ ⟨w.heap.size, 0, none⟩ [.int .u8 (d : Int)] fun j v hj => ?_
    match j, hj with
    | 0, hj =>
      simp only [List.getElem?_cons_zero, Option.some.injEq] at hj
      subst hj
      have hh : (w.alloc (.cells #[.int .u8 (d : Int)] 5)).heap[w.heap.size]? = some (.cells #[.int .u8 (d : Int)] 5) := by
        show (w.heap.push _)[w.heap.size]? = _
        rw [Array.getElem?_push_size]
      have := cell_of_one (b := w.heap.size) hh
      exact this
  rw [run_convert_bytes_string _ 34 9 5 _ 1 1 Tryz.underlying34 Tryz.underlying5 Tryz.underlying9, run_bytesToString _ _ 1 1 [(d : Int)] hl]
  rfl
theorem hex_any : ∀ (k n : Nat) (w : World), k ≤ 20 → n < 18446744073709551616 → Calls Tryz.prog 22 #[.int .u64 (n : Int), .int .i64 (k : Int)] w fun e w' => e = .returned (.string ⟨⟨hexR n k⟩⟩) ∧ Below w.heap.size w w'
  | 0, n, w, _, hn => by
    have h0 : ((0 : Nat) : Int) = 0 := rfl
    rw [h0]
    go_enter Tryz.func22, Tryz.ntmps22
    go_wp2
    go_ret
    exact ⟨rfl, Below.refl _ _⟩
  | k + 1, n, w, hk, hn => by
    obtain ⟨k1, hk1⟩ : ∃ k1, k1 = k + 1 := ⟨_, rfl⟩
    have hm : (n : Int) / 16 = ((n / 16 : Nat) : Int) := by omega
    have hr : (n : Int) % 16 = ((n % 16 : Nat) : Int) := by omega
    have ih : ∀ w : World, Calls Tryz.prog 22 #[.int .u64 ((n : Int) / 16), .int .i64 (k : Int)] w fun e w' => e = .returned (.string ⟨⟨hexR (n / 16) k⟩⟩) ∧ Below w.heap.size w w' := fun w => by
      rw [hm]; exact hex_any k (n / 16) w (by omega) (by omega)
    have hsg : ∀ w : World, Calls Tryz.prog 25 #[.int .u32 ((n : Int) % 16)] w fun e w' => e = .returned (.int .u8 (hexD (n % 16) : Nat)) ∧ w' = w := fun w => by
      rw [hr]; exact sign_any (n % 16) (by omega) w
    have hz : (⟨⟨hexR (n / 16) k⟩⟩ : ByteArray).size = k := hexR_length k _
    have HI := Lib.hid ih
    have HS := Lib.hid hsg
    have hk0 : ¬ (k1 : Int) = 0 := by omega
    have Hf := Lib.hid (show hexR n k1 = hexR (n / 16) k ++ [UInt8.ofNat (hexD (n % 16))] by rw [hk1]; rfl)
    rw [← hk1]
    clear ih hsg hm hr
    generalize hexR (n / 16) k = l at *
    generalize hexD (n % 16) = d at *
    have hcv := fun w => conv1 w d
    go_enter Tryz.func22, Tryz.ntmps22
    go_wp2_with first
      | (with_reducible refine (HI.out _).mono ?_; rintro e w1 ⟨rfl, hb1⟩)
      | (with_reducible refine (HS.out _).mono ?_; rintro e w2 ⟨rfl, rfl⟩)
      | fail
    go_ret
    refine ⟨?_, hb1.alloc hb1.size _⟩
    rw [Hf.out]
    exact congrArg (fun b => Ending.returned (.string b)) (ByteArray.mk_append_mk l [UInt8.ofNat d])
/-- A byte's bits taken in, the lowest first. -/
def takeN (s c : Nat) : Nat → Nat
  | 0 => s
  | k + 1 => bitN (takeN s c k) (c / 2 ^ k % 2)
def takeF (s : Nat) (xs : List Nat) : Nat := xs.foldl (fun s c => takeN s c 8) s
theorem takeN_lt {s c : Nat} (h : s < 4294967296) : ∀ k, takeN s c k < 4294967296
  | 0 => h
  | k + 1 => bitN_lt (takeN_lt h k)
theorem takeF_lt : ∀ (xs : List Nat) (s : Nat), s < 4294967296 → takeF s xs < 4294967296
  | [], s, h => h
  | x :: xs, s, h => takeF_lt xs _ (takeN_lt h 8)
theorem takeF_snoc (s : Nat) (xs : List Nat) (x : Nat) : takeF s (xs ++ [x]) = takeN (takeF s xs) x 8 := by simp [takeF]
set_option maxHeartbeats 2000000 in
theorem take_any (s : Nat) (xs : List Nat) (B o c : Nat) (w : World) (hs : s < 4294967296) (hx : ∀ x ∈ xs, x < 256) (hl : xs.length < 1000000)
    (hcells : ∀ (j : Nat) (x : Nat), xs[j]? = some x → w.cell? ⟨B, o + j, none⟩ = some (.int .u8 (x : Int))) :
    Calls Tryz.prog 34 #[.int .u32 (s : Int), .slice (some ⟨B, o, none⟩) xs.length c] w fun e w' => e = .returned (.int .u32 (takeF s xs : Nat)) ∧ w' = w := by
  have Hc := Lib.hid hcells
  have Hx := Lib.hid hx
  have Hs := Lib.hid hs
  clear hcells hx hs
  go_enter Tryz.func34, Tryz.ntmps34
  go_wp2
  go_loopw [0, 5] (fun v i wr => ∃ k : Nat, k ≤ xs.length ∧ i = .int .i64 (k : Int) ∧ v = .int .u32 (takeF s (xs.take k) : Nat) ∧ wr = w) (fun _ i _ => xs.length - (intOf i).toNat)
  case atStart => exact ⟨0, Nat.zero_le _, rfl, rfl, rfl⟩
  case round =>
    obtain ⟨k, hk, rfl, rfl, rfl⟩ := hrel
    have ha := takeF_lt (xs.take k) s Hs.out
    by_cases hlt : k < xs.length
    · obtain ⟨x, hxk⟩ : ∃ x, xs[k]? = some x := ⟨xs[k], by simp [hlt]⟩
      have hcx := Hc.out k x hxk
      have hx256 : x < 256 := Hx.out x (List.mem_of_getElem? hxk)
      have Hn := Lib.hid (show takeF s (xs.take (k + 1)) = takeN (takeF s (xs.take k)) x 8 by rw [List.take_add_one, hxk]; exact takeF_snoc _ _ _)
      clear hxk
      generalize takeF s (xs.take k) = a at ha Hn
      go_wp2
      go_loopw [0, 6, 7] (fun v c j wr2 => ∃ m : Nat, m ≤ 8 ∧ j = .int .i64 (m : Int) ∧ v = .int .u32 (takeN a x m : Nat) ∧ c = .int .u32 (x / 2 ^ m : Nat) ∧ wr2 = wr) (fun _ _ j _ => 8 - (intOf j).toNat)
      case atStart => exact ⟨0, Nat.zero_le _, rfl, rfl, by simp, rfl⟩
      case round =>
        obtain ⟨m, hm, rfl, rfl, rfl, rfl⟩ := hrel
        have hb := takeN_lt (c := x) ha m
        have hd : x / 2 ^ m < 256 := Nat.lt_of_le_of_lt (Nat.div_le_self _ _) hx256
        have Hm := Lib.hid (show takeN a x (m + 1) = bitN (takeN a x m) (x / 2 ^ m % 2) from rfl)
        have Hd := Lib.hid (show x / 2 ^ (m + 1) = x / 2 ^ m / 2 by rw [Nat.pow_succ, Nat.div_div_eq_div_mul])
        have h8 : m = 8 → takeN a x m = takeN a x 8 := fun h => by rw [h]
        have H8 := Lib.hid h8
        clear h8
        generalize takeN a x m = b at hb Hm H8
        generalize x / 2 ^ m = d at hd Hm Hd
        by_cases hm8 : m < 8
        · have hbit : ∀ w : World, Calls Tryz.prog 50 #[.int .u32 (b : Int), .int .u32 ((d : Int) % 2)] w fun e w' => e = .returned (.int .u32 (bitN b (d % 2) : Nat)) ∧ w' = w := fun w => by
            rw [show (d : Int) % 2 = ((d % 2 : Nat) : Int) by omega]; exact bit_any b (d % 2) hb w
          have HB := Lib.hid hbit
          clear hbit
          go_wp2_with first
            | (with_reducible refine (HB.out _).mono ?_; rintro e w2 ⟨rfl, rfl⟩)
            | fail
          exact ⟨⟨m + 1, by omega, rfl, by rw [Hm.out], by rw [Hd.out]; rfl, trivial⟩, by simp [intOf]; omega⟩
        · have hmk : m = 8 := by omega
          have Hk := Lib.hid hmk
          clear hmk
          go_wp2
          refine ⟨⟨k + 1, by omega, rfl, ?_, trivial⟩, by simp [intOf]; omega⟩
          rw [Hn.out, H8.out Hk.out]
    · have hke := Lib.hid (show xs.take k = xs from List.take_of_length_le (by omega))
      go_wp2
      go_ret
      exact ⟨congrArg (fun v : Nat => Ending.returned (.int .u32 (v : Int))) (congrArg (takeF s) hke.out), rfl⟩
/-! the reference's sum is the program's -/
theorem bits_eq (s c : Nat) : ∀ k, itN k (s ^^^ c) = takeN s c k ^^^ (c / 2 ^ k)
  | 0 => by simp [itN, takeN]
  | k + 1 => by
    have ih := bits_eq s c k
    have e : c / 2 ^ (k + 1) = c / 2 ^ k / 2 := by rw [Nat.pow_succ, Nat.div_div_eq_div_mul]
    show stepN (itN k (s ^^^ c)) = bitN (takeN s c k) (c / 2 ^ k % 2) ^^^ (c / 2 ^ (k + 1))
    rw [ih, e]
    generalize takeN s c k = b
    generalize c / 2 ^ k = r
    have h1 : stepN (b ^^^ r) = (b ^^^ r) / 2 ^^^ ((b ^^^ r) % 2 * 2197175160) := rfl
    have h2 : (b ^^^ r) / 2 = b / 2 ^^^ r / 2 := by
      have := Nat.shiftRight_xor_distrib (a := b) (b := r) (i := 1)
      simpa [Nat.shiftRight_succ] using this
    have h3 : (b ^^^ r) % 2 = (b + r) % 2 := by
      have h4 : (b ^^^ r) % 2 = (b % 2) ^^^ (r % 2) := by simpa using Nat.xor_mod_two_pow (a := b) (b := r) (n := 1)
      rw [h4]
      rcases Nat.mod_two_eq_zero_or_one b with h5 | h5 <;> rcases Nat.mod_two_eq_zero_or_one r with h6 | h6 <;> rw [h5, h6]
      · show 0 = (b + r) % 2; omega
      · show 1 = (b + r) % 2; omega
      · show 1 = (b + r) % 2; omega
      · show 0 = (b + r) % 2; omega
    rw [h1, h2, h3]
    unfold bitN
    by_cases h : b % 2 = r % 2
    · rw [if_pos h, show (b + r) % 2 = 0 by omega]; simp
    · rw [if_neg h, show (b + r) % 2 = 1 by omega, Nat.one_mul, Nat.xor_assoc, Nat.xor_assoc, Nat.xor_comm (r / 2)]
theorem takeF_eq : ∀ (xs : List Nat) (s : Nat), (∀ x ∈ xs, x < 256) → takeF s xs = crcF s xs
  | [], s, _ => rfl
  | x :: xs, s, h => by
    have hx : x / 2 ^ 8 = 0 := Nat.div_eq_of_lt (h x (by simp))
    have e := bits_eq s x 8
    rw [hx, Nat.xor_zero] at e
    show takeF (takeN s x 8) xs = crcF (itN 8 (s ^^^ x)) xs
    rw [e]
    exact takeF_eq xs _ fun y hy => h y (by simp [hy])
theorem not32_sub (s : Nat) (h : s < 4294967296) : not32 s = 4294967295 - s := by
  have e1 : (~~~ (BitVec.ofNat 32 s)).toNat = 4294967295 - s := by
    rw [BitVec.toNat_not, BitVec.toNat_ofNat, Nat.mod_eq_of_lt h]
  have e2 : (BitVec.allOnes 32 ^^^ BitVec.ofNat 32 s).toNat = 4294967295 ^^^ s := by
    rw [BitVec.toNat_xor, BitVec.toNat_allOnes, BitVec.toNat_ofNat, Nat.mod_eq_of_lt h]
  rw [BitVec.not_def, e2] at e1
  exact e1
theorem rmore_any (xs : List Nat) (B o c : Nat) (w : World) (hx : ∀ x ∈ xs, x < 256) (hl : xs.length < 1000000)
    (hcells : ∀ (j : Nat) (x : Nat), xs[j]? = some x → w.cell? ⟨B, o + j, none⟩ = some (.int .u8 (x : Int))) :
    Calls Tryz.prog 23 #[.int .u32 0, .slice (some ⟨B, o, none⟩) xs.length c] w fun e w' => e = .returned (.int .u32 (not32 (crcF (not32 0) xs) : Nat)) ∧ w' = w := by
  have ht : Calls Tryz.prog 34 #[.int .u32 4294967295, .slice (some ⟨B, o, none⟩) xs.length c] w fun e w' => e = .returned (.int .u32 (takeF 4294967295 xs : Nat)) ∧ w' = w := take_any 4294967295 xs B o c w (by decide) hx hl hcells
  have hlt := takeF_lt xs 4294967295 (by decide)
  have he : not32 (crcF (not32 0) xs) = 4294967295 - takeF 4294967295 xs := by
    rw [← takeF_eq xs (not32 0) hx, show not32 0 = 4294967295 from rfl, not32_sub _ hlt]
  have he2 : ((not32 (crcF (not32 0) xs) : Nat) : Int) = 4294967295 - ((takeF 4294967295 xs : Nat) : Int) := by rw [he]; omega
  have He := Lib.hid he2
  have Ht := Lib.hid ht
  clear ht he he2 hcells hx
  generalize takeF 4294967295 xs = t at *
  go_enter Tryz.func23, Tryz.ntmps23
  go_wp2_with first
    | (with_reducible refine Ht.out.mono ?_; rintro e w1 ⟨rfl, rfl⟩)
    | fail
  go_ret
  exact ⟨congrArg (fun v : Int => Ending.returned (.int .u32 v)) He.out.symm, rfl⟩
end Go.Proofs.YtkgapncajjafoaaGreatDoor
