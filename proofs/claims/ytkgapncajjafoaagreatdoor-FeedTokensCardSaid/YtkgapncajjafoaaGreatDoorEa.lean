/- The abstract evaluator of the model, part a: definitions and laws, of no program. -/
import GoSem.Step
import Derived.Laws.World
import Derived.Laws.Sem
set_option linter.unusedVariables false
set_option linter.unusedSimpArgs false
/- The abstract evaluator: trees. -/
namespace Go.Eng

/-- A map from numbers, as a tree over their bits. -/
inductive T (α : Type) where
  | leaf
  | node (l : T α) (v : Option α) (r : T α)
namespace T
variable {α : Type}
def get : T α → Nat → Option α
  | .leaf, _ => none
  | .node l v r, n => cond (Nat.beq n 0) v (cond (Nat.beq (n % 2) 1) (l.get (n / 2)) (r.get (n / 2 - 1)))
def setF : Nat → T α → Nat → α → T α
  | 0, t, _, _ => t
  | f + 1, .leaf, n, a => cond (Nat.beq n 0) (.node .leaf (some a) .leaf) (cond (Nat.beq (n % 2) 1) (.node (setF f .leaf (n / 2) a) none .leaf) (.node .leaf none (setF f .leaf (n / 2 - 1) a)))
  | f + 1, .node l v r, n, a => cond (Nat.beq n 0) (.node l (some a) r) (cond (Nat.beq (n % 2) 1) (.node (setF f l (n / 2) a) v r) (.node l v (setF f r (n / 2 - 1) a)))
def set (t : T α) (n : Nat) (a : α) : T α := setF (n + 1) t n a
def ofListF : List α → Nat → T α → T α
  | [], _, t => t
  | a :: as, i, t => ofListF as (i + 1) (t.set i a)
def ofList (l : List α) : T α := ofListF l 0 .leaf
end T

/-- Sixteen. -/
structure N16 (α : Type) where
  mk ::
  (a0 a1 a2 a3 a4 a5 a6 a7 a8 a9 aa ab ac ad ae af : α)
namespace N16
variable {α : Type}
def get (t : N16 α) (i : Nat) : α := cond (Nat.ble 8 i) (cond (Nat.ble 12 i) (cond (Nat.ble 14 i) (cond (Nat.ble 15 i) (t.af) (t.ae)) (cond (Nat.ble 13 i) (t.ad) (t.ac))) (cond (Nat.ble 10 i) (cond (Nat.ble 11 i) (t.ab) (t.aa)) (cond (Nat.ble 9 i) (t.a9) (t.a8)))) (cond (Nat.ble 4 i) (cond (Nat.ble 6 i) (cond (Nat.ble 7 i) (t.a7) (t.a6)) (cond (Nat.ble 5 i) (t.a5) (t.a4))) (cond (Nat.ble 2 i) (cond (Nat.ble 3 i) (t.a3) (t.a2)) (cond (Nat.ble 1 i) (t.a1) (t.a0))))
def set (x : α) (t : N16 α) (i : Nat) : N16 α := cond (Nat.ble 8 i) (cond (Nat.ble 12 i) (cond (Nat.ble 14 i) (cond (Nat.ble 15 i) (⟨t.a0, t.a1, t.a2, t.a3, t.a4, t.a5, t.a6, t.a7, t.a8, t.a9, t.aa, t.ab, t.ac, t.ad, t.ae, x⟩) (⟨t.a0, t.a1, t.a2, t.a3, t.a4, t.a5, t.a6, t.a7, t.a8, t.a9, t.aa, t.ab, t.ac, t.ad, x, t.af⟩)) (cond (Nat.ble 13 i) (⟨t.a0, t.a1, t.a2, t.a3, t.a4, t.a5, t.a6, t.a7, t.a8, t.a9, t.aa, t.ab, t.ac, x, t.ae, t.af⟩) (⟨t.a0, t.a1, t.a2, t.a3, t.a4, t.a5, t.a6, t.a7, t.a8, t.a9, t.aa, t.ab, x, t.ad, t.ae, t.af⟩))) (cond (Nat.ble 10 i) (cond (Nat.ble 11 i) (⟨t.a0, t.a1, t.a2, t.a3, t.a4, t.a5, t.a6, t.a7, t.a8, t.a9, t.aa, x, t.ac, t.ad, t.ae, t.af⟩) (⟨t.a0, t.a1, t.a2, t.a3, t.a4, t.a5, t.a6, t.a7, t.a8, t.a9, x, t.ab, t.ac, t.ad, t.ae, t.af⟩)) (cond (Nat.ble 9 i) (⟨t.a0, t.a1, t.a2, t.a3, t.a4, t.a5, t.a6, t.a7, t.a8, x, t.aa, t.ab, t.ac, t.ad, t.ae, t.af⟩) (⟨t.a0, t.a1, t.a2, t.a3, t.a4, t.a5, t.a6, t.a7, x, t.a9, t.aa, t.ab, t.ac, t.ad, t.ae, t.af⟩)))) (cond (Nat.ble 4 i) (cond (Nat.ble 6 i) (cond (Nat.ble 7 i) (⟨t.a0, t.a1, t.a2, t.a3, t.a4, t.a5, t.a6, x, t.a8, t.a9, t.aa, t.ab, t.ac, t.ad, t.ae, t.af⟩) (⟨t.a0, t.a1, t.a2, t.a3, t.a4, t.a5, x, t.a7, t.a8, t.a9, t.aa, t.ab, t.ac, t.ad, t.ae, t.af⟩)) (cond (Nat.ble 5 i) (⟨t.a0, t.a1, t.a2, t.a3, t.a4, x, t.a6, t.a7, t.a8, t.a9, t.aa, t.ab, t.ac, t.ad, t.ae, t.af⟩) (⟨t.a0, t.a1, t.a2, t.a3, x, t.a5, t.a6, t.a7, t.a8, t.a9, t.aa, t.ab, t.ac, t.ad, t.ae, t.af⟩))) (cond (Nat.ble 2 i) (cond (Nat.ble 3 i) (⟨t.a0, t.a1, t.a2, x, t.a4, t.a5, t.a6, t.a7, t.a8, t.a9, t.aa, t.ab, t.ac, t.ad, t.ae, t.af⟩) (⟨t.a0, t.a1, x, t.a3, t.a4, t.a5, t.a6, t.a7, t.a8, t.a9, t.aa, t.ab, t.ac, t.ad, t.ae, t.af⟩)) (cond (Nat.ble 1 i) (⟨t.a0, x, t.a2, t.a3, t.a4, t.a5, t.a6, t.a7, t.a8, t.a9, t.aa, t.ab, t.ac, t.ad, t.ae, t.af⟩) (⟨x, t.a1, t.a2, t.a3, t.a4, t.a5, t.a6, t.a7, t.a8, t.a9, t.aa, t.ab, t.ac, t.ad, t.ae, t.af⟩))))
def all (x : α) : N16 α := ⟨x, x, x, x, x, x, x, x, x, x, x, x, x, x, x, x⟩
end N16
namespace T
variable {α : Type}

theorem get_leaf (m : Nat) : (T.leaf : T α).get m = none := rfl
theorem get_node (l : T α) (v : Option α) (r : T α) (n : Nat) :
    (T.node l v r).get n = if n = 0 then v else if n % 2 = 1 then l.get (n / 2) else r.get (n / 2 - 1) := by
  simp only [get]
  cases h : Nat.beq n 0 with
  | true => simp [Nat.eq_of_beq_eq_true h]
  | false =>
    have h0 := Nat.ne_of_beq_eq_false h
    cases h2 : Nat.beq (n % 2) 1 with
    | true => simp [h0, Nat.eq_of_beq_eq_true h2]
    | false => simp [h0, Nat.ne_of_beq_eq_false h2]

theorem setF_node (f : Nat) (l : T α) (v : Option α) (r : T α) (n : Nat) (a : α) :
    setF (f + 1) (.node l v r) n a = if n = 0 then .node l (some a) r else if n % 2 = 1 then .node (setF f l (n / 2) a) v r else .node l v (setF f r (n / 2 - 1) a) := by
  simp only [setF]
  cases h : Nat.beq n 0 with
  | true => simp [Nat.eq_of_beq_eq_true h]
  | false =>
    have h0 := Nat.ne_of_beq_eq_false h
    cases h2 : Nat.beq (n % 2) 1 with
    | true => simp [h0, Nat.eq_of_beq_eq_true h2]
    | false => simp [h0, Nat.ne_of_beq_eq_false h2]
theorem setF_leaf (f : Nat) (n : Nat) (a : α) :
    setF (f + 1) (.leaf : T α) n a = setF (f + 1) (.node .leaf none .leaf) n a := by
  simp only [setF]

theorem get_setF : ∀ (f : Nat) (t : T α) (n : Nat) (a : α) (m : Nat), n < f → (setF f t n a).get m = if m = n then some a else t.get m
  | 0, _, _, _, _, h => absurd h (Nat.not_lt_zero _)
  | f + 1, .leaf, n, a, m, h => by
    rw [setF_leaf, get_setF_node f .leaf none .leaf n a m h (fun t n a m h => get_setF f t n a m h)]
    simp [get_node, get_leaf]
  | f + 1, .node l v r, n, a, m, h => get_setF_node f l v r n a m h (fun t n a m h => get_setF f t n a m h)
where
  get_setF_node (f : Nat) (l : T α) (v : Option α) (r : T α) (n : Nat) (a : α) (m : Nat) (h : n < f + 1)
      (ih : ∀ (t : T α) (n : Nat) (a : α) (m : Nat), n < f → (setF f t n a).get m = if m = n then some a else t.get m) :
      (setF (f + 1) (.node l v r) n a).get m = if m = n then some a else (T.node l v r).get m := by
    rw [setF_node]
    by_cases hn : n = 0
    · subst hn
      by_cases hm : m = 0 <;> simp [get_node, hm]
    · by_cases hp : n % 2 = 1
      · simp only [hn, hp, if_true, if_false, get_node]
        by_cases hm : m = 0
        · subst hm; simp [Ne.symm hn]
        · by_cases hq : m % 2 = 1
          · rw [ih l (n / 2) a (m / 2) (by omega)]
            have : m / 2 = n / 2 ↔ m = n := by omega
            simp only [hm, hq, if_true, if_false, this]
          · have : m ≠ n := fun e => hq (e ▸ hp)
            simp [hm, hq, this]
      · simp only [hn, hp, if_false, get_node]
        by_cases hm : m = 0
        · subst hm; simp [Ne.symm hn]
        · by_cases hq : m % 2 = 1
          · have : m ≠ n := fun e => hp (e ▸ hq)
            simp [hm, hq, this]
          · rw [ih r (n / 2 - 1) a (m / 2 - 1) (by omega)]
            have : m / 2 - 1 = n / 2 - 1 ↔ m = n := by omega
            simp only [hm, hq, if_false, this]

theorem get_set (t : T α) (n : Nat) (a : α) (m : Nat) : (t.set n a).get m = if m = n then some a else t.get m := get_setF _ _ _ _ _ (Nat.lt_succ_self n)
theorem get_set_same (t : T α) (n : Nat) (a : α) : (t.set n a).get n = some a := by simp [get_set]
theorem get_set_other (t : T α) {n m : Nat} (a : α) (h : m ≠ n) : (t.set n a).get m = t.get m := by simp [get_set, h]

theorem get_ofListF : ∀ (l : List α) (i : Nat) (t : T α) (m : Nat), (ofListF l i t).get m = if i ≤ m ∧ m < i + l.length then l[m - i]? else t.get m
  | [], i, t, m => by
    have : ¬ (i ≤ m ∧ m < i + ([] : List α).length) := by simp
    rw [if_neg this, ofListF]
  | a :: l, i, t, m => by
    rw [ofListF, get_ofListF l (i + 1), get_set]
    by_cases h1 : m = i
    · subst h1
      rw [if_neg (by omega), if_pos rfl, if_pos (by simp)]
      simp
    · by_cases h2 : i + 1 ≤ m ∧ m < i + 1 + l.length
      · have h3 : i ≤ m ∧ m < i + (a :: l).length := by simp; omega
        obtain ⟨k, hk⟩ : ∃ k, m - i = k + 1 := ⟨m - i - 1, by omega⟩
        have : m - (i + 1) = k := by omega
        rw [if_pos h2, if_pos h3, hk, this]; simp
      · have h3 : ¬ (i ≤ m ∧ m < i + (a :: l).length) := by simp; omega
        rw [if_neg h2, if_neg h3, if_neg h1]
theorem get_ofList (l : List α) (m : Nat) : (ofList l).get m = l[m]? := by
  rw [ofList, get_ofListF]
  by_cases h : m < l.length
  · simp [h]
  · simp [h, get_leaf]
end T
namespace N16
variable {α : Type}
theorem get_set (t : N16 α) (x : α) : ∀ (i j : Nat), i < 16 → j < 16 → (N16.set x t i).get j = if j = i then x else t.get j := by
  intro i j hi hj
  have : i = 0 ∨ i = 1 ∨ i = 2 ∨ i = 3 ∨ i = 4 ∨ i = 5 ∨ i = 6 ∨ i = 7 ∨ i = 8 ∨ i = 9 ∨ i = 10 ∨ i = 11 ∨ i = 12 ∨ i = 13 ∨ i = 14 ∨ i = 15 := by omega
  have : j = 0 ∨ j = 1 ∨ j = 2 ∨ j = 3 ∨ j = 4 ∨ j = 5 ∨ j = 6 ∨ j = 7 ∨ j = 8 ∨ j = 9 ∨ j = 10 ∨ j = 11 ∨ j = 12 ∨ j = 13 ∨ j = 14 ∨ j = 15 := by omega
  rcases ‹i = 0 ∨ _› with rfl | rfl | rfl | rfl | rfl | rfl | rfl | rfl | rfl | rfl | rfl | rfl | rfl | rfl | rfl | rfl <;>
    rcases ‹j = 0 ∨ _› with rfl | rfl | rfl | rfl | rfl | rfl | rfl | rfl | rfl | rfl | rfl | rfl | rfl | rfl | rfl | rfl <;> rfl
theorem get_all (x : α) (i : Nat) : (N16.all x).get i = x := by
  unfold N16.get N16.all; cases Nat.ble 8 i <;> cases Nat.ble 4 i <;> cases Nat.ble 12 i <;> cases Nat.ble 2 i <;> cases Nat.ble 6 i <;> cases Nat.ble 10 i <;> cases Nat.ble 14 i <;> simp
end N16
/-- A map from numbers to blocks: 65536 at once, the others in a tree. -/
structure HT (α : Type) where
  lo : N16 (N16 (N16 (N16 (Option α))))
  hi : T α
namespace HT
variable {α : Type}
def get (t : HT α) (i : Nat) : Option α := bif Nat.blt i 65536 then (((t.lo.get (i / 4096)).get (i / 256 % 16)).get (i / 16 % 16)).get (i % 16) else t.hi.get i
def set (t : HT α) (i : Nat) (v : α) : HT α := bif Nat.blt i 65536 then
    { t with lo := N16.set (N16.set (N16.set (N16.set (some v) (((t.lo.get (i / 4096)).get (i / 256 % 16)).get (i / 16 % 16)) (i % 16)) ((t.lo.get (i / 4096)).get (i / 256 % 16)) (i / 16 % 16)) (t.lo.get (i / 4096)) (i / 256 % 16)) t.lo (i / 4096) }
  else { t with hi := t.hi.set i v }
def none : HT α := ⟨N16.all (N16.all (N16.all (N16.all Option.none))), .leaf⟩
def ofListF : List α → Nat → HT α → HT α
  | [], _, t => t
  | a :: as, i, t => ofListF as (i + 1) (t.set i a)
def ofList (l : List α) : HT α := ofListF l 0 none
end HT

namespace HT
variable {α : Type}
theorem get_set (t : HT α) (d : Nat) (v : α) (i : Nat) : (t.set d v).get i = if i = d then some v else t.get i := by
  unfold set get
  cases hd : Nat.blt d 65536 <;> cases hi : Nat.blt i 65536 <;> simp only [cond]
  · rw [T.get_set]
  · have : i ≠ d := fun h => by rw [h, hd] at hi; cases hi
    rw [if_neg this]
  · have : i ≠ d := fun h => by rw [h, hd] at hi; cases hi
    rw [if_neg this]
  · rw [Nat.blt_eq] at hd hi
    rw [N16.get_set _ _ _ _ (by omega) (by omega)]
    by_cases h1 : i / 4096 = d / 4096
    · rw [if_pos h1, N16.get_set _ _ _ _ (by omega) (by omega)]
      by_cases h2 : i / 256 % 16 = d / 256 % 16
      · rw [if_pos h2, N16.get_set _ _ _ _ (by omega) (by omega)]
        by_cases h3 : i / 16 % 16 = d / 16 % 16
        · rw [if_pos h3, N16.get_set _ _ _ _ (by omega) (by omega)]
          by_cases h4 : i % 16 = d % 16
          · rw [if_pos h4, if_pos (by omega)]
          · rw [if_neg h4, if_neg (by omega), h1, h2, h3]
        · rw [if_neg h3, if_neg (by omega), h1, h2]
      · rw [if_neg h2, if_neg (by omega), h1]
    · rw [if_neg h1, if_neg (by omega)]
theorem get_set_same (t : HT α) (n : Nat) (a : α) : (t.set n a).get n = some a := by simp [get_set]
theorem get_set_other (t : HT α) {n m : Nat} (a : α) (h : m ≠ n) : (t.set n a).get m = t.get m := by simp [get_set, h]
theorem get_none (i : Nat) : (none : HT α).get i = Option.none := by
  unfold get none
  cases Nat.blt i 65536 <;> simp only [cond]
  · rfl
  · rw [N16.get_all, N16.get_all, N16.get_all, N16.get_all]
end HT
end Go.Eng

/- The abstract evaluator: definitions. An own heap of numbered blocks, own evaluation of the model's code over it; no tape. -/
namespace Go.Eng

/-- The temporaries of an activation: 256 at once, the others in a tree. -/
structure F where
  lo : N16 (N16 Value)
  hi : T Value
namespace F
def get (t : F) (i : Nat) : Value := bif Nat.blt i 256 then (t.lo.get (i / 16)).get (i % 16) else (t.hi.get i).getD undef
def set (t : F) (i : Nat) (v : Value) : F := bif Nat.blt i 256 then { t with lo := N16.set (N16.set v (t.lo.get (i / 16)) (i % 16)) t.lo (i / 16) } else { t with hi := t.hi.set i v }
def none : F := ⟨N16.all (N16.all undef), .leaf⟩
def ofListF : List Value → Nat → F → F
  | [], _, t => t
  | a :: as, i, t => ofListF as (i + 1) (t.set i a)
def ofList (l : List Value) : F := ofListF l 0 none
end F

/-- A block of the own heap. 'wsz': how many cells there were when one was written last. 'frz': none may be written. 'ex': there is no spare cell behind them. -/
inductive AObj where
  | cells (cs : List Value) (elem : TypeId) (wsz : Nat) (frz ex : Bool)
  | map (es : List MapEntry) (clock : Nat)
  | siter (s : ByteArray) (pos : Nat)
  | miter (m : Option Nat) (since : Nat) (seen : List Nat) (stepped : Nat)
  | loop (state : LoopState) (pending : Option Code) (fn : FuncId) (t : F) (n : Nat) (params : List Tmp) (assign body : Code) (defers : Nat)
  | deferred (calls : Option (List Deferred))

/-! ### byte rows as one number -/
/-- The bytes of a number, the lowest first. -/
def bytesL : Nat → Nat → List Value
  | _, 0 => []
  | n, len + 1 => .int .u8 (.ofNat (n % 256)) :: bytesL (n / 256) len
/-- A block as it is kept: a row of bytes may be one number. -/
inductive Raw where
  | obj (o : AObj)
  | bytes (n len : Nat) (e : TypeId) (w : Nat) (z x : Bool)
def Raw.norm : Raw → AObj
  | .obj o => o
  | .bytes n len e w z x => .cells (bytesL n len) e w z x
def HR (a b : HT Raw) : Prop := ∀ i, (a.get i).map Raw.norm = (b.get i).map Raw.norm
theorem HR.set {a b : HT Raw} (h : HR a b) (i : Nat) {r r' : Raw} (hr : r.norm = r'.norm) : HR (a.set i r) (b.set i r') := by
  intro j
  rw [HT.get_set, HT.get_set]
  by_cases hj : j = i
  · rw [if_pos hj, if_pos hj]; simp [hr]
  · rw [if_neg hj, if_neg hj]; exact h j
def HQ : Type := Quot HR
namespace HQ
def get (h : HQ) (i : Nat) : Option AObj := Quot.lift (fun t : HT Raw => (t.get i).map Raw.norm) (fun _ _ r => r i) h
def set (h : HQ) (i : Nat) (o : AObj) : HQ := Quot.lift (fun t : HT Raw => (Quot.mk HR (t.set i (.obj o)) : HQ)) (fun _ _ r => Quot.sound (r.set i rfl)) h
def none : HQ := Quot.mk HR HT.none
theorem get_set (h : HQ) (i : Nat) (o : AObj) (j : Nat) : (h.set i o).get j = if j = i then some o else h.get j := by
  induction h using Quot.ind with
  | mk t =>
    show ((t.set i (.obj o)).get j).map Raw.norm = if j = i then some o else (t.get j).map Raw.norm
    rw [HT.get_set]
    by_cases hj : j = i
    · rw [if_pos hj, if_pos hj]; rfl
    · rw [if_neg hj, if_neg hj]
theorem get_set_same (h : HQ) (n : Nat) (a : AObj) : (h.set n a).get n = some a := by simp [get_set]
theorem get_set_other (h : HQ) {n m : Nat} (a : AObj) (hm : m ≠ n) : (h.set n a).get m = h.get m := by simp [get_set, hm]
theorem get_none (i : Nat) : none.get i = Option.none := by
  show (HT.none.get i).map Raw.norm = Option.none
  rw [HT.get_none]; rfl
def ofListF : List AObj → Nat → HQ → HQ
  | [], _, t => t
  | a :: as, i, t => ofListF as (i + 1) (t.set i a)
def ofList (l : List AObj) : HQ := ofListF l 0 none
end HQ

structure St where
  h : HQ
  nx : Nat

structure Fr where
  t : F
  n : Nat
  d : List Deferred

/-- The program, with its tables as trees. -/
structure Env where
  tt : T TypeInfo
  ft : T Func
  glob : Nat → Option Value
  eqok : TypeId → Bool
  lies : TypeId → Nat → Nat → TypeId → Bool
  ext : FuncId → List Value → St → Option (Value × St)
  orc : FuncId → List Value → St → Option (Value × St)

def St.alloc (s : St) (o : AObj) : St := ⟨s.h.set s.nx o, s.nx + 1⟩
def St.put (s : St) (b : Nat) (o : AObj) : St := ⟨s.h.set b o, s.nx⟩
/-- A new row of cells, and its address. -/
def St.row (s : St) (elem : TypeId) (cs : List Value) (ex : Bool := true) : Addr × St := (⟨s.nx, 0, some cs.length⟩, s.alloc (.cells cs elem cs.length false ex))

def Fr.put (fr : Fr) (dst : Option Tmp) (v : Value) : Fr :=
  match dst with
  | some d => cond (Nat.blt d fr.n) { fr with t := fr.t.set d v } fr
  | none => fr
def Fr.tmp (fr : Fr) (t : Tmp) : Value := fr.t.get t


/-! ### numbers and strings, by means that the kernel reckons fast -/
/-- Is it 0? -/
def eqI : Int → Int → Bool
  | .ofNat a, .ofNat b => Nat.beq a b
  | .negSucc a, .negSucc b => Nat.beq a b
  | _, _ => false
def ltI : Int → Int → Bool
  | .ofNat a, .ofNat b => Nat.blt a b
  | .negSucc a, .negSucc b => Nat.blt b a
  | .negSucc _, .ofNat _ => true
  | .ofNat _, .negSucc _ => false
/-- What is left by m, as a number. -/
def modI (m : Nat) : Int → Nat
  | .ofNat a => a % m
  | .negSucc a => m - 1 - a % m
def sgnI (h m n : Nat) : Int := cond (Nat.blt n h) (.ofNat n) (.negSucc (m - 1 - n))
def wrapI : IntKind → Int → Int
  | .i8, n => sgnI 128 256 (modI 256 n)
  | .i16, n => sgnI 32768 65536 (modI 65536 n)
  | .i32, n => sgnI 2147483648 4294967296 (modI 4294967296 n)
  | .i64, n => sgnI 9223372036854775808 18446744073709551616 (modI 18446744073709551616 n)
  | .u8, n => .ofNat (modI 256 n)
  | .u16, n => .ofNat (modI 65536 n)
  | .u32, n => .ofNat (modI 4294967296 n)
  | .u64, n => .ofNat (modI 18446744073709551616 n)
def modK : IntKind → Nat
  | .i8 | .u8 => 256
  | .i16 | .u16 => 65536
  | .i32 | .u32 => 4294967296
  | .i64 | .u64 => 18446744073709551616
def numOp (op : BinOp) (j : IntKind) (a : Int) (k : IntKind) (b : Int) : Option Value :=
  match op with
  | .shl => match b with
    | .ofNat n => some (.int j (wrapI j (a * .ofNat (2 ^ min n j.bits))))
    | _ => none
  | .shr => match a, b with
    | .ofNat m, .ofNat n => some (.int j (.ofNat (m / 2 ^ min n j.bits)))
    | a, .ofNat n => some (.int j (a.fdiv (2 ^ min n j.bits)))
    | _, _ => none
  | _ => if j ≠ k then none else match op with
    | .add => some (.int j (wrapI j (a + b)))
    | .sub => some (.int j (wrapI j (a - b)))
    | .mul => some (.int j (wrapI j (a * b)))
    | .quo => if eqI b 0 then none else some (.int j (wrapI j (a.tdiv b)))
    | .rem => if eqI b 0 then none else some (.int j (a.tmod b))
    | .and => some (.int j (wrapI j (.ofNat (Nat.land (modI (modK j) a) (modI (modK j) b)))))
    | .or => some (.int j (wrapI j (.ofNat (Nat.lor (modI (modK j) a) (modI (modK j) b)))))
    | .xor => some (.int j (wrapI j (.ofNat (Nat.xor (modI (modK j) a) (modI (modK j) b)))))
    | .eql => some (.bool (eqI a b))
    | .neq => some (.bool (!eqI a b))
    | .lss => some (.bool (ltI a b))
    | .leq => some (.bool (!ltI b a))
    | .gtr => some (.bool (ltI b a))
    | .geq => some (.bool (!ltI a b))
    | _ => none
def unV (op : UnOp) (x : Value) : Option Value :=
  match op, x with
  | .neg, .int k n => some (.int k (wrapI k (0 - n)))
  | .xor, .int k n => numOp .xor k (if k.signed then -1 else k.max) k n
  | .not, .bool b => some (.bool !b)
  | _, _ => none
def eqB : List UInt8 → List UInt8 → Bool
  | [], [] => true
  | a :: as, b :: bs => Nat.beq a.toNat b.toNat && eqB as bs
  | _, _ => false
def ltB : List UInt8 → List UInt8 → Bool
  | _, [] => false
  | [], _ :: _ => true
  | a :: x, b :: y => Nat.blt a.toNat b.toNat || (Nat.beq a.toNat b.toNat && ltB x y)
def strOp (op : BinOp) (x y : ByteArray) : Option Value :=
  match op with
  | .add => if x.data.toList.length + y.data.toList.length < 9223372036854775808 then some (.string ⟨⟨x.data.toList ++ y.data.toList⟩⟩) else none
  | .eql => some (.bool (eqB x.data.toList y.data.toList))
  | .neq => some (.bool (!eqB x.data.toList y.data.toList))
  | .lss => some (.bool (ltB x.data.toList y.data.toList))
  | .leq => some (.bool (ltB x.data.toList y.data.toList || eqB x.data.toList y.data.toList))
  | .gtr => some (.bool (!(ltB x.data.toList y.data.toList || eqB x.data.toList y.data.toList)))
  | .geq => some (.bool (!ltB x.data.toList y.data.toList))
  | _ => none

section
mutual
/-- A value without an address. -/
def flat : Value → Bool
  | .bool _ | .int _ _ | .string _ | .nilFunc | .nilIface => true
  | .pointer none | .map none => true
  | .slice none _ _ => true
  | .func (.func _) first captured => flats first.toList && flats captured.toList
  | .func (.via _ _ _ _) first captured => flats first.toList && flats captured.toList
  | .func (.methodOf _ _) first captured => flats first.toList && flats captured.toList
  | .iface _ v => flat v
  | .agg cs => flats cs.toList
  | .tuple cs => flats cs.toList
  | _ => false
def flats : List Value → Bool
  | [] => true
  | v :: vs => flat v && flats vs
end
end

variable (E : Env)

def Env.under (t : TypeId) : Option TypeDesc :=
  match E.tt.get t with
  | some { desc := .named _ u, .. } => (E.tt.get u).map (·.desc)
  | some i => some i.desc
  | none => none
def Env.size (t : TypeId) : Option Nat := (E.tt.get t).map (·.size)
def Env.isAgg (t : TypeId) : Option Bool :=
  match E.under t with
  | some (.struct _) | some (.array _ _) => some true
  | some _ => some false
  | none => none
def Env.zero (t : TypeId) : Option Value :=
  match E.tt.get t with
  | some i => match i.zero with
    | some v => if flat v && Nat.beq v.cells.size i.size then some v else none
    | none => none
  | none => none

def eval (fr : Fr) : Operand → Option Value
  | .tmp t => some (fr.tmp t)
  | .const v => if flat v then some v else none
  | .global g => E.glob g
  | .func f => some (.func (.func f) #[] #[])

def evals (fr : Fr) : List Operand → Option (List Value)
  | [] => some []
  | x :: xs => match eval E fr x, evals fr xs with
    | some v, some vs => some (v :: vs)
    | _, _ => none

def Addr.hi (a : Addr) : Nat := a.spot.getD 0
def aadd (a : Addr) (n : Nat) : Addr := { a with off := a.off + n }

/-- n cells from an address on. -/
def readN (s : St) (a : Addr) (n : Nat) : Option (List Value) :=
  match s.h.get a.block, a.spot with
  | some (.cells cs _ wsz _ _), some hi => if wsz ≤ hi ∧ a.off + n ≤ hi then some ((cs.drop a.off).take n) else none
  | _, _ => none

def oneCell : Value → Bool
  | .agg _ | .tuple _ => false
  | _ => true

/-- Cells are written from an address on. -/
def writeN (s : St) (a : Addr) (vs : List Value) : Option St :=
  match s.h.get a.block, a.spot with
  | some (.cells cs e _ false ex), some hi =>
    if hi = cs.length ∧ a.off + vs.length ≤ hi ∧ vs.all oneCell then some (s.put a.block (.cells (cs.take a.off ++ vs ++ cs.drop (a.off + vs.length)) e hi false ex)) else none
  | _, _ => none

def loadV (s : St) (t : TypeId) (a : Addr) : Option Value :=
  match E.isAgg t, E.size t with
  | some true, some n => (readN s a n).map fun l => .agg ⟨l⟩
  | some false, _ => match readN s a 1 with
    | some [v] => some v
    | _ => none
  | _, _ => none

def storeV (s : St) (t : TypeId) (a : Addr) (v : Value) : Option St :=
  match E.size t with
  | some n => if v.cells.size = n then writeN s a v.cells.toList else none
  | none => none

/-- What a computation that looks at nothing answers. -/
def now {α : Type} : Sem α → Option α
  | .pure a => some a
  | _ => none

def partV (t : TypeId) (cs : List Value) (off : Nat) : Option Value :=
  match E.isAgg t, E.size t with
  | some true, some n => some (.agg ⟨(cs.drop off).take n⟩)
  | some false, _ => cs[off]?
  | _, _ => none

/-- The capacity that is surely there, in elements, of a slice whose capacity is not known. -/
def openCap (s : St) (a : Addr) (elem size : Nat) : Option Nat :=
  match s.h.get a.block, a.spot with
  | some (.cells _ e _ _ _), some hi => if e = elem ∧ 0 < size ∧ a.off ≤ hi then some ((hi - a.off) / size) else none
  | _, _ => none

/-- '==' on values of a type. -/
def aeqFields (f : TypeId → Value → Value → Option Bool) (xs ys : List Value) : List Field → Option Bool
  | [] => some true
  | fd :: rest =>
    if fd.name = "_" then aeqFields f xs ys rest else
    match partV E fd.type xs fd.offset, partV E fd.type ys fd.offset with
    | some a, some b => match f fd.type a b with
      | some true => aeqFields f xs ys rest
      | r => r
    | _, _ => none
def aeqIn : Nat → TypeId → Value → Value → Option Bool
  | 0, _, _, _ => none
  | d + 1, t, x, y =>
    match E.under t, x, y with
    | some .bool, .bool a, .bool b => some (a == b)
    | some (.int _), .int k a, .int k' b => if k = k' then some (eqI a b) else none
    | some .string, .string a, .string b => some (eqB a.data.toList b.data.toList)
    | some (.pointer _), .pointer none, .pointer b => some b.isNone
    | some (.pointer _), .pointer (some _), .pointer none => some false
    | some (.pointer el), .pointer (some a), .pointer (some b) =>
      if a.block = b.block ∧ a.spot = b.spot ∧ (E.size el).any (· ≠ 0) then some (a.off == b.off) else none
    | some (.interface _), .nilIface, .nilIface => some true
    | some (.interface _), .nilIface, .iface _ _ | some (.interface _), .iface _ _, .nilIface => some false
    | some (.struct fields), .agg xs, .agg ys => if E.eqok t then aeqFields E (aeqIn d) xs.toList ys.toList fields.toList else none
    | some (.slice _), .slice none _ _, .slice b _ _ => some b.isNone
    | some (.slice _), .slice (some _) _ _, .slice none _ _ => some false
    | some (.map _ _), .map none, .map b => some b.isNone
    | some (.map _ _), .map (some _), .map none => some false
    | some (.func _ _ _), .nilFunc, .nilFunc => some true
    | some (.func _ _ _), .func _ _ _, .nilFunc | some (.func _ _ _), .nilFunc, .func _ _ _ => some false
    | _, _, _ => none

def isConst : Operand → Bool
  | .const _ => true
  | _ => false

def binV (lit : Bool) (op : BinOp) (t : TypeId) (x y : Value) : Option Value :=
  match x, y with
  | .int j a, .int k b => numOp op j a k b
  | .string a, .string b => strOp op a b
  | .nilIface, .nilIface => if lit then (match op with
    | .eql => (aeqIn E Op.maxDepth t x y).map .bool
    | .neq => (aeqIn E Op.maxDepth t x y).map fun b => .bool !b
    | _ => none) else none
  | _, _ => match op with
    | .eql => (aeqIn E Op.maxDepth t x y).map .bool
    | .neq => (aeqIn E Op.maxDepth t x y).map fun b => .bool !b
    | _ => none

/-- The bytes of cells. -/
def bytesOfCells : List Value → Option (List UInt8)
  | [] => some []
  | .int .u8 n :: vs => (bytesOfCells vs).map (UInt8.ofNat n.toNat :: ·)
  | _ => none

def convV (s : St) (src dst : TypeId) (x : Value) : Option (Value × St) :=
  match E.under src, E.under dst, x with
  | some _, some (.int k), .int _ n => some (.int k (wrapI k n), s)
  | some _, some .string, .int _ n => some (.string (Utf8.encode n), s)
  | some _, some .string, .string b => some (.string b, s)
  | some _, some (.slice e), .string b => match E.under e, E.size e with
    | some (.int .u8), some 1 => some (.slice (some (s.row e (b.data.toList.map fun (b : UInt8) => Value.int .u8 b.toNat) false).1) b.data.toList.length 0, (s.row e (b.data.toList.map fun (b : UInt8) => Value.int .u8 b.toNat) false).2)
    | _, _ => none
  | some (.slice e), some .string, .slice a n _ => match E.under e, a with
    | some (.int .u8), none => some (.string .empty, s)
    | some (.int .u8), some a => match readN s a n with
      | some l => (bytesOfCells l).map fun b => (.string ⟨⟨b⟩⟩, s)
      | none => none
    | _, _ => none
  | some (.pointer _), some .unsafePointer, .pointer none => some (x, s)
  | some .unsafePointer, some (.pointer _), .pointer none => some (x, s)
  | some .unsafePointer, some .unsafePointer, .pointer _ => some (x, s)
  | some (.pointer t), some .unsafePointer, .pointer (some a) => match s.h.get a.block, a.spot with
    | some (.cells _ _ _ _ _), some hi => if a.off < hi ∧ (E.size t).any (· ≠ 0) then some (x, s) else none
    | _, _ => none
  | some .unsafePointer, some (.pointer u), .pointer (some a) => match s.h.get a.block with
    | some (.cells cs e _ _ true) => if a.spot = some cs.length ∧ E.lies e cs.length a.off u ∧ (E.size u).isSome then some (x, s) else none
    | _ => none
  | _, _, _ => none

def firstV (s : St) (size n : Nat) : Value → Option (List Value)
  | .slice (some a) _ _ => if n * size = 0 then some [] else readN s a (n * size)
  | .slice none _ _ => some []
  | .string b => some ((b.data.toList.take n).map fun b => .int .u8 b.toNat)
  | _ => none

/-- A new row, for what no longer fits. -/
def freshV (s : St) (elem size sLen n : Nat) (base : Option Addr) (new : List Value) : Option (Value × St) :=
  match base with
  | none => if sLen = 0 then some (.slice (some (s.row elem new false).1) n 0, (s.row elem new false).2) else none
  | some a => match readN s a (sLen * size) with
    | some old => some (.slice (some (s.row elem (old ++ new) false).1) (sLen + n) 0, (s.row elem (old ++ new) false).2)
    | none => none

/-- What is appended: how many elements, and their cells. -/
def newV (s : St) (argTypes : Array TypeId) (size bytes : Nat) (z x : Value) : Option (Nat × List Value) :=
  let zeros : Option Bool := match argTypes[1]? with
    | some xType => (match E.under xType with | some (.int _) => some true | some _ => some false | none => none)
    | none => some false
  match zeros with
  | some true => match x with
    | .int .i64 l => if 0 ≤ l ∧ l * bytes ≤ 2 ^ 40 ∧ 0 < bytes then some (l.toNat, if l.toNat * size = 0 then [] else (Builtin.zeroCells z.cells l.toNat).toList) else none
    | _ => none
  | some false => match now (Builtin.lenOf x) with
    | some n => (firstV s size n x).map (n, ·)
    | none => none
  | none => none

/-- append, of n elements whose cells are new. -/
def growV (s : St) (elem size : Nat) (base : Option Addr) (sLen cp n : Nat) (new : List Value) : Option (Value × St) :=
  match base, cp with
  | none, c => if n = 0 then (if sLen = 0 then some (.slice none 0 c, s) else none) else if c = 0 then freshV s elem size sLen n none new else none
  | some a, c + 1 =>
    if n = 0 then (if sLen ≤ c then some (.slice (some a) sLen (c + 1), s) else none)
    else if sLen + n ≤ c then (writeN s (aadd a (sLen * size)) new).map fun s => (.slice (some a) (sLen + n) (c + 1), s)
    else freshV s elem size sLen n (some a) new
  | some a, 0 => match openCap s a elem size with
    | some c =>
      if n = 0 then (if sLen ≤ c then some (.slice (some a) sLen 0, s) else none)
      else if sLen + n ≤ c then (writeN s (aadd a (sLen * size)) new).map fun s => (.slice (some a) (sLen + n) 0, s)
      else match s.h.get a.block with
        | some (.cells cs e wsz false false) =>
          if a.off = 0 ∧ a.spot = some cs.length ∧ sLen * size = cs.length ∧ new.all oneCell then
            some (.slice (some ⟨a.block, 0, some (cs.length + new.length)⟩) (sLen + n) 0, s.put a.block (.cells (cs ++ new) e wsz false false))
          else none
        | _ => none
    | none => none

/-- append. -/
def appendV (s : St) (argTypes : Array TypeId) (xs : List Value) : Option (Value × St) :=
  match argTypes[0]?, xs with
  | some sType, [.slice base sLen cp, x] =>
    match E.under sType with
    | some (.slice elem) =>
      match E.size elem, (E.tt.get elem).map (·.bytes), E.zero elem with
      | some size, some bytes, some z =>
        match newV E s argTypes size bytes z x with
        | none => none
        | some (n, new) =>
          if size = 0 ∨ bytes = 0 ∨ new.length ≠ n * size ∨ (4 * (sLen + n) + 4000) * bytes > 2 ^ 46 then none
          else growV s elem size base sLen cp n new
      | _, _, _ => none
    | _ => none
  | _, _ => none

def copyV (s : St) (argTypes : Array TypeId) (xs : List Value) : Option (Value × St) :=
  match argTypes[0]?, xs with
  | some dType, [.slice base dLen _, x] =>
    match E.under dType with
    | some (.slice elem) =>
      match E.size elem, now (Builtin.lenOf x) with
      | some size, some m =>
        let n := Nat.min m dLen
        match firstV s size n x with
        | some cs => if n = 0 then some (goInt 0, s) else
          match base with
          | some a => if cs.length = n * size then (writeN s a cs).map fun s => (goInt n, s) else none
          | none => none
        | none => none
      | _, _ => none
    | _ => none
  | _, _ => none

def lenV (s : St) (t : Option TypeId) (x : Value) : Option Value :=
  match t with
  | none => none
  | some t => match E.under t, x with
    | some .string, .string b => some (goInt b.size)
    | some (.array n _), _ => some (goInt n)
    | some (.slice _), .slice _ n _ => some (goInt n)
    | some (.map _ _), .map none => some (goInt 0)
    | some (.map _ _), .map (some r) => match s.h.get r with
      | some (.map es _) => some (goInt es.length)
      | _ => none
    | _, _ => none

def capV (t : Option TypeId) (x : Value) : Option Value :=
  match t with
  | none => none
  | some t => match E.under t, x with
    | some (.array n _), _ => some (goInt n)
    | some (.slice _), .slice none _ c => some (goInt c)
    | some (.slice _), .slice (some _) _ (c + 1) => some (goInt c)
    | _, _ => none

def sliceV (s : St) (t : TypeId) (x : Value) (lo hi mx : Option Value) : Option Value :=
  match E.under t, x with
  | some (.array n elem), .pointer (some a) =>
    match now (Instr.sliceBounds false n n lo hi mx), E.size elem with
    | some (l, h, m), some size => some (.slice (some (if m = l then a else aadd a (l * size))) (h - l) (m - l + 1))
    | _, _ => none
  | some .string, .string b =>
    if mx.isSome then none else
    match now (Instr.sliceBounds false b.size b.size lo hi none) with
    | some (l, h, _) => some (.string ⟨⟨(b.data.toList.drop l).take (h - l)⟩⟩)
    | none => none
  | some (.slice elem), .slice none len cap =>
    match now (Instr.sliceBounds true len cap lo hi mx), E.size elem with
    | some (l, h, m), some _ => some (.slice none (h - l) (m - l))
    | _, _ => none
  | some (.slice elem), .slice (some a) len (c + 1) =>
    match now (Instr.sliceBounds true len c lo hi mx), E.size elem with
    | some (l, h, m), some size => if ¬ h ≤ c then none else some (.slice (some (if m = l then a else aadd a (l * size))) (h - l) (m - l + 1))
    | _, _ => none
  | some (.slice elem), .slice (some a) len 0 =>
    match E.size elem with
    | some size => match openCap s a elem size with
      | some c => match now (Instr.sliceBounds true len c lo hi mx) with
        | some (l, h, m) =>
          if ¬ h ≤ c then none
          else if mx.isSome then some (.slice (some (if m = l then a else aadd a (l * size))) (h - l) (m - l + 1))
          else some (.slice (some (aadd a (l * size))) (h - l) 0)
        | none => none
      | none => none
    | none => none
  | _, _ => none

def indexAddrV (t : TypeId) (x i : Value) : Option Value :=
  match E.under t, x, i with
  | some (.array len elem), .pointer (some a), .int _ i => match E.size elem with
    | some size => if 0 ≤ i ∧ i < len then some (.pointer (some (aadd a (i.toNat * size)))) else none
    | none => none
  | some (.slice elem), .slice (some a) len _, .int _ i => match E.size elem with
    | some size => if 0 ≤ i ∧ i < len then some (.pointer (some (aadd a (i.toNat * size)))) else none
    | none => none
  | _, _, _ => none

def indexV (t : TypeId) (x i : Value) : Option Value :=
  match E.under t, x, i with
  | some (.array len elem), .agg cs, .int _ i => match E.size elem with
    | some size => if 0 ≤ i ∧ i < len then partV E elem cs.toList (i.toNat * size) else none
    | none => none
  | some .string, .string b, .int _ i => if 0 ≤ i then (b.data.toList[i.toNat]?).map fun c => .int .u8 c.toNat else none
  | _, _, _ => none

def fieldAddrV (t : TypeId) (x : Value) (f : Nat) : Option Value :=
  match E.under t, x with
  | some (.struct fields), .pointer (some a) => match fields[f]? with
    | some fd => if (E.size fd.type).any (· ≠ 0) then some (.pointer (some (aadd a fd.offset))) else none
    | none => none
  | _, _ => none

def fieldV (t : TypeId) (x : Value) (f : Nat) : Option Value :=
  match E.under t, x with
  | some (.struct fields), .agg cs => match fields[f]? with
    | some fd => partV E fd.type cs.toList fd.offset
    | none => none
  | _, _ => none

def keyKind : TypeDesc → Bool
  | .int _ | .string | .bool => true
  | _ => false

def lookupV (s : St) (t : TypeId) (x k : Value) (ok : Bool) : Option Value :=
  match E.under t with
  | some (.map key elem) =>
    let es := match x with
      | .map none => some []
      | .map (some r) => (match s.h.get r with | some (.map es _) => some es | _ => none)
      | _ => none
    match E.under key, es, E.zero elem with
    | some kd, some es, some z =>
      if keyKind kd then
        match Instr.findNow kd k es 0 with
        | some (some (_, v)) => some (if ok then .tuple #[v, .bool true] else v)
        | some none => some (if ok then .tuple #[z, .bool false] else z)
        | none => none
      else none
    | _, _, _ => none
  | _ => none

def mapPut (s : St) (t : TypeId) (m k x : Value) : Option St :=
  match E.under t, m with
  | some (.map key _), .map (some r) => match E.under key, s.h.get r with
    | some kd, some (.map es clock) =>
      if keyKind kd then
        match Instr.findNow kd k es 0 with
        | some (some (i, _)) => some (s.put r (.map (es.modify i fun e => { e with key := k, val := x }) clock))
        | some none => some (s.put r (.map (es ++ [{ key := k, val := x, born := clock }]) (clock + 1)))
        | none => none
      else none
    | _, _ => none
  | _, _ => none

def rangeV (s : St) (t : TypeId) (x : Value) : Option (Value × St) :=
  match E.under t, x with
  | some .string, .string b => some (.pointer (some ⟨s.nx, 0, some 0⟩), s.alloc (.siter b 0))
  | some (.map _ _), .map none => some (.pointer (some ⟨s.nx, 0, some 0⟩), s.alloc (.miter none 0 [] 0))
  | some (.map _ _), .map (some m) => match s.h.get m with
    | some (.map _ clock) => some (.pointer (some ⟨s.nx, 0, some 0⟩), s.alloc (.miter (some m) clock [] clock))
    | _ => none
  | _, _ => none

def nextV (s : St) (it : Value) (isString : Bool) : Option (Value × St) :=
  match it with
  | .pointer (some ⟨r, 0, _⟩) => match s.h.get r, isString with
    | some (.siter b pos), true =>
      if pos < b.size then
        let (c, width) := Utf8.decode b pos
        some (.tuple #[.bool true, goInt pos, .int .i32 c], s.put r (.siter b (pos + width)))
      else some (.tuple #[.bool false], s)
    | some (.miter none _ _ _), false => some (.tuple #[.bool false], s)
    | some (.miter (some m) since seen last), false => match s.h.get m with
      | some (.map es clock) =>
        if !seen.isEmpty && !es.isEmpty && es.all (·.born ≥ last) then none else
        let left := es.filter fun e => !seen.contains e.born
        let old := left.filter (·.born < since)
        let new := left.filter (·.born ≥ since)
        match old, new with
        | [], [] => some (.tuple #[.bool false], s)
        | [e], [] => some (.tuple #[.bool true, e.key, e.val], s.put r (.miter (some m) since (seen ++ [e.born]) clock))
        | _, _ => none
      | _ => none
    | _, _ => none
  | _ => none

def buildV (t : TypeId) (parts : List (Nat × Value)) : Option Value :=
  match E.zero t, E.under t with
  | some z, some (.struct fields) =>
    match fields.toList.mapM fun f => (E.size f.type).map (f.offset, ·) with
    | some places => (Instr.fill (places[·]?) z.cells parts).map .agg
    | none => none
  | some z, some (.array _ elem) => match E.size elem with
    | some size => (Instr.fill (fun i => some (i * size, size)) z.cells parts).map .agg
    | none => none
  | _, _ => none

def buildSliceV (s : St) (t : TypeId) (len : Nat) (parts : List (Nat × Value)) : Option (Value × St) :=
  match E.under t with
  | some (.slice elem) => match E.size elem, E.zero elem with
    | some size, some z =>
      if len * size > 2 ^ 24 then none else
      let zero := if len * size = 0 then #[] else z.cells
      match Instr.fill (fun i => some (i * size, size)) ((Array.range (len * size)).map (zero[· % zero.size]!)) parts with
      | some cells => let (a, s) := s.row elem cells.toList; some (.slice (some a) len (len + 1), s)
      | none => none
    | _, _ => none
  | _ => none

def makeSliceV (s : St) (t : TypeId) (l c : Value) : Option (Value × St) :=
  match E.under t, l, c with
  | some (.slice elem), .int _ l, .int _ c => match E.size elem, E.zero elem, (E.tt.get elem).map (·.bytes) with
    | some size, some z, some bytes =>
      if 0 ≤ l ∧ l ≤ c ∧ c < 2 ^ 62 ∧ bytes * c ≤ 2 ^ 47 then
        let n := c.toNat * size
        let zero := if n = 0 then #[] else z.cells
        let (a, s) := s.row elem ((Array.range n).map (zero[· % zero.size]!)).toList
        some (.slice (some a) l.toNat (c.toNat + 1), s)
      else none
    | _, _, _ => none
  | _, _, _ => none

def assertV (x : Value) (asserted : TypeId) (ok : Bool) : Option Value :=
  match E.under asserted, x with
  | some (.interface _), .nilIface => if ok then (E.zero asserted).map fun z => .tuple #[z, .bool false] else none
  | some (.interface want), .iface t v => match E.tt.get t with
    | some i => match Instr.missingMethod want i.methods with
      | none => some (if ok then .tuple #[.iface t v, .bool true] else .iface t v)
      | some _ => if ok then (E.zero asserted).map fun z => .tuple #[z, .bool false] else none
    | none => none
  | some _, .nilIface => if ok then (E.zero asserted).map fun z => .tuple #[z, .bool false] else none
  | some _, .iface t v => if t = asserted then some (if ok then .tuple #[v, .bool true] else v) else if ok then (E.zero asserted).map fun z => .tuple #[z, .bool false] else none
  | _, _ => none

/-- What an operation comes to. -/
inductive ANext where
  | val (v : Value) (s : St)
  | skip (s : St)
  | enter (f : FuncId) (args : List Value)
  | round (l : Nat) (args : List Value)
  | defer (d : Deferred)
  | recover
  | panic (v : Value)

/-- A call of a function by its number. -/
def callF (f : FuncId) (args : List Value) (s : St) : Option ANext :=
  match E.ft.get f with
  | some fn => if fn.body.isSome then (if fn.name = "runtime.NumGoroutine" then none else some (.enter f args)) else (E.ext f args s).map fun (v, s) => .val v s
  | none => none

def recvV (s : St) (t : TypeId) (pointer : Bool) (v : Value) : Option Value :=
  match E.under t, pointer with
  | some (.pointer _), true => some v
  | some (.pointer elem), false => match v with
    | .pointer (some a) => loadV E s elem a
    | _ => none
  | some _, false => some v
  | _, _ => none

/-- A method called on an interface value. -/
def callM (recv : Value) (name : String) (args : List Value) (s : St) : Option ANext :=
  match recv with
  | .iface t v => match (E.tt.get t).bind fun i => i.methods.find? (·.name == name) with
    | some m => if m.path.isEmpty then (match m.func with
        | some (f, p) => match recvV E s t p v with
          | some r => callF E f (r :: args) s
          | none => none
        | none => none) else none
    | none => none
  | _ => none

def callV (f : Value) (args : List Value) (s : St) : Option ANext :=
  match f with
  | .func (.func g) first captured => callF E g (first.toList ++ args ++ captured.toList) s
  | .func (.method name) first _ => match first.toList ++ args with
    | r :: rest => callM E r name rest s
    | [] => none
  | .func (.methodOf t name) first _ => match first.toList ++ args with
    | r :: rest => match E.under t with
      | some (.interface _) => callM E r name rest s
      | some _ => callM E (.iface t r) name rest s
      | none => none
    | [] => none
  | .func (.via t path g p) first _ => match first.toList ++ args with
    | r :: rest => if path.isEmpty then (match recvV E s t p r with
        | some r => callF E g (r :: rest) s
        | none => none) else none
    | [] => none
  | .func (.yield l) first _ => some (.round l (first.toList ++ args))
  | _ => none

def minV : Value → Value → Option Value
  | .int k x, .int _ y => some (.int k (if y < x then y else x))
  | _, _ => none
def maxV : Value → Value → Option Value
  | .int k x, .int _ y => some (.int k (if y > x then y else x))
  | _, _ => none

def unsafeStringV (s : St) (pt : Option TypeId) (p : Option Addr) (n : Int) : Option (Value × St) :=
  if n = 0 then some (.string .empty, s) else
  match pt.bind (E.under ·), p with
  | some (.pointer u), some a => match s.h.get a.block, a.spot, readN s a n.toNat with
    | some (.cells cs e wsz false ex), some hi, some l =>
      if 0 < n ∧ n < 2 ^ 62 ∧ e = u ∧ E.size e = some 1 ∧ hi = cs.length then (bytesOfCells l).map fun b => (.string ⟨⟨b⟩⟩, s.put a.block (.cells cs e wsz true ex)) else none
    | _, _, _ => none
  | _, _ => none

def byteRow (s : St) (a : Addr) (c : Nat) : Bool :=
  Nat.blt 1 c || (Nat.beq c 0 && Nat.blt a.off (Addr.hi a) && (match s.h.get a.block with | some (.cells _ e _ _ _) => E.size e == some 1 | _ => false))
def builtinV (b : Builtin) (argTypes : Array TypeId) (args : List Value) (s : St) : Option ANext :=
  match b, args with
  | .append, _ => (appendV E s argTypes args).map fun (v, s) => .val v s
  | .copy, _ => (copyV E s argTypes args).map fun (v, s) => .val v s
  | .len, [x] => (lenV E s argTypes[0]? x).map fun v => .val v s
  | .cap, [x] => (capV E argTypes[0]? x).map fun v => .val v s
  | .min, x :: xs => (xs.foldlM minV x).map fun v => .val v s
  | .max, x :: xs => (xs.foldlM maxV x).map fun v => .val v s
  | .recover, [] => some .recover
  | .unsafeSliceData, [.slice none _ _] => some (.val (.pointer none) s)
  | .unsafeSliceData, [.slice (some a) _ c] => if byteRow E s a c then some (.val (.pointer (some a)) s) else none
  | .unsafeString, [.pointer p, .int _ n] => if ¬ argTypes[0]?.isSome then none else (unsafeStringV E s argTypes[0]? p n).map fun (v, s) => .val v s
  | _, _ => none

def callO (fr : Fr) (c : Call) (s : St) : Option ANext :=
  match evals E fr c.args.toList with
  | none => none
  | some args => match c.callee with
    | .builtin b => builtinV E b c.argTypes args s
    | .invoke recv name => match eval E fr recv with
      | some r => callM E r name args s
      | none => none
    | .value f => match eval E fr f with
      | some f => callV E f args s
      | none => none

def evalParts (fr : Fr) : List (Nat × Operand) → Option (List (Nat × Value))
  | [] => some []
  | (i, x) :: xs => match eval E fr x, evalParts fr xs with
    | some v, some vs => some ((i, v) :: vs)
    | _, _ => none
def evalOpt (fr : Fr) : Option Operand → Option (Option Value)
  | none => some none
  | some x => (eval E fr x).map some

def isYield : Fn → Bool
  | .yield _ => true
  | _ => false

/-- One operation. -/
def evalOp (fr : Fr) (o : Oper) (s : St) : Option ANext :=
  let one (x : Operand) (f : Value → Option ANext) : Option ANext := match eval E fr x with | some v => f v | none => none
  let v (r : Option Value) : Option ANext := match r with | some v => some (.val v s) | none => none
  let vs (r : Option (Value × St)) : Option ANext := match r with | some (v, s) => some (.val v s) | none => none
  match o.op with
  | .move x | .assign x => one x fun x => some (.val x s)
  | .pick c a b => one c fun | .bool true => one a fun x => some (.val x s) | .bool false => one b fun x => some (.val x s) | _ => none
  | .alloc elem => match E.zero elem with
    | some z => let (a, s) := s.row elem z.cells.toList; some (.val (.pointer (some a)) s)
    | none => none
  | .box elem x => one x fun x => let (a, s) := s.row elem x.cells.toList; some (.val (.pointer (some a)) s)
  | .build t parts => match evalParts E fr parts.toList with
    | some ps => v (buildV E t ps)
    | none => none
  | .buildSlice t len parts => match evalParts E fr parts.toList with
    | some ps => vs (buildSliceV E s t len ps)
    | none => none
  | .load t a => one a fun | .pointer (some a) => v (loadV E s t a) | _ => none
  | .store t a x => one a fun | .pointer (some a) => one x fun x => (match storeV E s t a x with | some s => some (.skip s) | none => none) | _ => none
  | .nilCheck x => one x fun
    | .pointer none | .nilIface | .nilFunc => none
    | .func (.method _) _ _ => none
    | x => some (.val x s)
  | .binOp op t x y _ => one x fun a => one y fun b => v (binV E (isConst x || isConst y) op t a b)
  | .unOp op _ x => one x fun x => v (unV op x)
  | .convert src dst x => one x fun x => vs (convV E s src dst x)
  | .makeInterface t x => one x fun x => match E.under t with
    | some (.interface _) | none => none
    | some _ => some (.val (.iface t x) s)
  | .makeFunc fn first captured => if isYield fn then none else match evals E fr first.toList, evals E fr captured.toList with
    | some fs, some cs => some (.val (.func fn ⟨fs⟩ ⟨cs⟩) s)
    | _, _ => none
  | .makeMap _ none => some (.val (.map (some s.nx)) (s.alloc (.map [] 0)))
  | .makeSlice t l c => one l fun l => one c fun c => vs (makeSliceV E s t l c)
  | .slice t x lo hi mx => one x fun x => match evalOpt E fr lo, evalOpt E fr hi, evalOpt E fr mx with
    | some lo, some hi, some mx => v (sliceV E s t x lo hi mx)
    | _, _, _ => none
  | .fieldAddr t x f => one x fun x => v (fieldAddrV E t x f)
  | .field t x f => one x fun x => v (fieldV E t x f)
  | .indexAddr t x i => one x fun x => one i fun i => v (indexAddrV E t x i)
  | .index t x i => one x fun x => one i fun i => v (indexV E t x i)
  | .lookup t x k ok => one x fun x => one k fun k => v (lookupV E s t x k ok)
  | .mapUpdate t m k x | .insert t m k x => one m fun m => one k fun k => one x fun x => (match mapPut E s t m k x with | some s => some (.skip s) | none => none)
  | .range t x => one x fun x => vs (rangeV E s t x)
  | .next it isString => one it fun it => vs (nextV s it isString)
  | .typeAssert x _ asserted ok => one x fun x => v (assertV E x asserted ok)
  | .extract t i => one t fun | .tuple vs => v (vs.toList[i]?) | _ => none
  | .call c => callO E fr c s
  | .defer c => match c.callee, evals E fr c.args.toList with
    | .value f, some args => one f fun
      | .func (.yield _) _ _ => none
      | .func fn first captured => some (.defer { target := .fn fn captured, args := first ++ args.toArray })
      | _ => none
    | _, _ => none
  | .panic x => one x fun | .iface t v => some (.panic (.iface t v)) | _ => none
  | _ => none

/-- How a piece of code ends. -/
inductive AExit where
  | normal
  | jump (c : Code)
  | panic (chain : List PanicEntry)

def yieldedA (ops : Array Oper) (fr : Fr) (j : Nat) : Option Bool :=
  match (ops[j]?).bind (·.dst) with
  | some d => match fr.tmp d with
    | .bool b => some b
    | _ => none
  | none => none
def wantedA (ops : Array Oper) (fr : Fr) (o : Oper) : Bool :=
  match o.guard with
  | none => true
  | some (j, want) => yieldedA ops fr j == some want

/-- Where an activation runs. -/
structure Ctx where
  fn : FuncId
  round : Option Nat

/-- How a call ends. -/
inductive AEnd where
  | ret (v : Value)
  | panic (chain : List PanicEntry)

def resultsV (s : St) (fr : Fr) : List ResultVar → Option (List Value)
  | [] => some []
  | .tmp t :: rest => (resultsV s fr rest).map (fr.tmp t :: ·)
  | .cell a t :: rest => match fr.tmp a with
    | .pointer (some p) => match loadV E s t p, resultsV s fr rest with
      | some v, some vs => some (v :: vs)
      | _, _ => none
    | _ => none
def tupled : List Value → Value
  | [v] => v
  | vs => .tuple ⟨vs⟩

/-! ### whole pieces of code -/

mutual
def veq : Value → Value → Bool
  | .bool a, .bool b => a == b
  | .int j a, .int k b => decide (j = k) && eqI a b
  | .string a, .string b => eqB a.data.toList b.data.toList
  | .pointer a, .pointer b => decide (a = b)
  | .slice a n c, .slice b m d => decide (a = b) && Nat.beq n m && Nat.beq c d
  | .map a, .map b => decide (a = b)
  | .func f ⟨a⟩ ⟨b⟩, .func g ⟨c⟩ ⟨d⟩ => decide (f = g) && veqs a c && veqs b d
  | .nilFunc, .nilFunc => true
  | .nilIface, .nilIface => true
  | .iface t a, .iface u b => Nat.beq t u && veq a b
  | .agg ⟨a⟩, .agg ⟨b⟩ => veqs a b
  | .tuple ⟨a⟩, .tuple ⟨b⟩ => veqs a b
  | _, _ => false
def veqs : List Value → List Value → Bool
  | [], [] => true
  | a :: as, b :: bs => veq a b && veqs as bs
  | _, _ => false
end

def oeq : AObj → AObj → Bool
  | .cells a t n f x, .cells b u m g y => veqs a b && Nat.beq t u && Nat.beq n m && f == g && x == y
  | _, _ => false

/-- 0: looks only · 1: makes a block, of its operands alone · 2: acts. -/
def cls (o : Oper) : Nat :=
  match o.op with
  | .move _ | .assign _ | .pick .. | .nilCheck _ | .binOp .. | .unOp .. | .fieldAddr .. | .field .. | .indexAddr .. | .index .. | .slice .. | .build .. | .load ..
  | .lookup .. | .makeFunc .. | .makeInterface .. | .extract .. | .typeAssert .. => 0
  | .convert _ dst _ => match E.under dst with
    | some (.slice _) => 1
    | _ => 0
  | .call c => match c.callee with
    | .builtin .len | .builtin .unsafeSliceData | .builtin .cap | .builtin .min | .builtin .max => 0
    | _ => 2
  | .alloc _ | .buildSlice .. => 1
  | _ => 2

def reads (t : Tmp) (o : Oper) : Bool := o.op.operands.toList.any fun | .tmp u => Nat.beq u t | _ => false

/-- Does it write what another one (or itself) reads that does not wait for it? -/
def clobbers (anc : Array Nat) (ops : List (Oper × Nat)) (o : Oper) (j : Nat) : Bool :=
  match o.dst with
  | some t => ops.any fun (p, i) => reads t p && !(anc.getD i 0).testBit j
  | none => false

/-- The plan of a region that draws its order: the acting operations, in their order; of each other one the first and the last stage at which it may be carried out. -/
structure Plan where
  actors : List Nat
  rest : List (Nat × Nat × Nat)
  ok : Bool

def chain (anc : Array Nat) : List Nat → Bool
  | a :: b :: r => (anc.getD b 0).testBit a && chain anc (b :: r)
  | _ => true
/-- What an operation's edges lead to. -/
def links (anc : Array Nat) (o : Oper) : Nat :=
  o.after.toList.foldl (fun u e => if Region.binds .any e then u ||| ((1 <<< e.on) ||| anc.getD e.on 0) else u) 0
def okAt (anc : Array Nat) (l : List (Oper × Nat)) (o : Oper) (i : Nat) : Bool :=
  o.after.toList.all (fun e => !Region.binds .any e || Nat.blt e.on i) &&
  Nat.beq (anc.getD i 0 &&& links anc o) (anc.getD i 0) &&
  (match o.guard with | some (j, _) => (anc.getD i 0).testBit j | none => true) &&
  (match o.dst with | some t => l.all fun (p, j) => Nat.beq i j || (match p.dst with | some u => !Nat.beq u t | none => true) | none => true)

def acts (anc : Array Nat) (l : List (Oper × Nat)) : List Nat := l.filterMap fun (o, i) => if cls E o == 2 || clobbers anc l o i then some i else none

def plan (ops : Array Oper) : Plan :=
  let anc := Region.before ops
  let l := ops.toList.zipIdx
  let actors := acts E anc l
  let m := actors.length
  let rest := l.filterMap fun (_, i) => if actors.contains i then none else
    some (i, (actors.filter fun a => (anc.getD i 0).testBit a).length, (actors.findIdx? fun a => (anc.getD a 0).testBit i).getD m)
  { actors, rest, ok := chain anc actors && l.all fun (o, i) => okAt anc l o i }

abbrev Out := Option (AExit × Fr × St)

section
variable (call : ANext → St → Option (AEnd × St)) (inRound : Bool)

/-- What an operation's answer makes of the frame. -/
def onNext (o : Oper) (fr : Fr) (s : St) : ANext → Out
  | .val v s => some (.normal, fr.put o.dst v, s)
  | .skip s => some (.normal, fr.put o.dst undef, s)
  | .defer d => if inRound then none else some (.normal, ({ fr with d := d :: fr.d } : Fr).put o.dst undef, s)
  | .recover => if inRound then none else some (.normal, fr.put o.dst .nilIface, s)
  | .panic v => some (.panic [{ v, recovered := false }], fr, s)
  | a => match call a s with
    | some (.ret v, s) => some (.normal, fr.put o.dst v, s)
    | some (.panic chain, s) => some (.panic chain, fr, s)
    | none => none

def opsF (ops : Array Oper) : List Nat → Fr → St → Out
  | [], fr, s => some (.normal, fr, s)
  | i :: rest, fr, s =>
    match ops[i]? with
    | none => none
    | some o =>
      if wantedA ops fr o then
        match evalOp E fr o s with
        | some a => match onNext call inRound o fr s a with
          | some (.normal, fr, s) => opsF ops rest fr s
          | r => r
        | none => none
      else opsF ops rest (fr.put o.dst undef) s

/-- The other operations of a stage, carried out for the first time; of those that make a block, the block. -/
def stageF (ops : Array Oper) (k : Nat) : List (Nat × Nat × Nat) → Fr → St → List (Nat × Nat) → Option (Fr × St × List (Nat × Nat))
  | [], fr, s, made => some (fr, s, made)
  | (i, est, _) :: rest, fr, s, made =>
    if Nat.beq est k then
      match ops[i]? with
      | none => none
      | some o =>
        if wantedA ops fr o then
          match evalOp E fr o s with
          | some (.val v s') =>
            match cls E o with
            | 0 => stageF ops k rest (fr.put o.dst v) s made
            | 1 => match s'.h.get s.nx with
              | some obj => stageF ops k rest (fr.put o.dst v) (s.alloc obj) ((i, s.nx) :: made)
              | none => none
            | _ => none
          | _ => none
        else stageF ops k rest (fr.put o.dst undef) s made
    else stageF ops k rest fr s made

/-- Is this what its destination holds? -/
def same (fr : Fr) (dst : Option Tmp) (v : Value) : Bool :=
  match dst with
  | some d => !Nat.blt d fr.n || veq v (fr.tmp d)
  | none => true
def againO (fr : Fr) (s : St) (made : List (Nat × Nat)) (i : Nat) (o : Oper) : Bool :=
  match cls E o with
  | 0 => match evalOp E fr o s with
    | some (.val v _) => same fr o.dst v
    | _ => false
  | 1 => match made.find? fun p => Nat.beq p.1 i with
    | some (_, b) => match evalOp E fr o ⟨s.h, b⟩, s.h.get b with
      | some (.val v s2), some obj => same fr o.dst v && (match s2.h.get b with | some obj2 => oeq obj2 obj | none => false)
      | _, _ => false
    | none => false
  | _ => false
/-- Every other operation that may be carried out at this stage answers here as it did. -/
def againF (ops : Array Oper) (k : Nat) (fr : Fr) (s : St) (made : List (Nat × Nat)) : List (Nat × Nat × Nat) → Bool
  | [] => true
  | (i, est, lst) :: rest =>
    (if Nat.ble est k && Nat.ble k lst then
      (match ops[i]? with
      | none => false
      | some o => if wantedA ops fr o then againO E fr s made i o else same fr o.dst undef)
    else true) && againF ops k fr s made rest

def stagesF (ops : Array Oper) (rest : List (Nat × Nat × Nat)) : List Nat → Nat → Fr → St → List (Nat × Nat) → Out
  | actors, k, fr, s, made =>
    match stageF E ops k rest fr s made with
    | none => none
    | some (fr, s, made) =>
      if againF E ops k fr s made rest then
        match actors with
        | [] => some (.normal, fr, s)
        | i :: actors => match opsF E call inRound ops [i] fr s with
          | some (.normal, fr, s) => stagesF ops rest actors (k + 1) fr s made
          | _ => none
      else none

def regionF (ops : Array Oper) (draw : Bool) (fr : Fr) (s : St) : Out :=
  if draw then
    let p := plan E ops
    if p.ok then stagesF E call inRound ops p.rest p.actors 0 fr s [] else none
  else opsF E call inRound ops (List.range ops.size) fr s
end

section
variable (exec : Ctx → Code → Fr → St → Out) (call : ANext → St → Option (AEnd × St))

/-- The deferred calls of an activation that returns. -/
def defersF : Nat → List Deferred → St → Option St
  | _, [], s => some s
  | 0, _, _ => none
  | n + 1, d :: ds, s => match d.target with
    | .collected b => match s.h.get b with
      | some (.deferred (some ds')) => defersF n (ds' ++ ds) (s.put b (.deferred none))
      | _ => none
    | .fn fn captured => match callV E (.func fn #[] captured) d.args.toList s with
      | some (.enter f args) => if (E.orc f args s).isSome then none else match call (.enter f args) s with
        | some (.ret _, s) => defersF n ds s
        | _ => none
      | _ => none
    | _ => none

/-- An activation returns. -/
def leaveF (fn : Func) (fr : Fr) (s : St) : Option (AEnd × St) :=
  match defersF E call 100000 fr.d s with
  | some s => match resultsV E s fr fn.results.toList with
    | some vs => some (.ret (tupled vs), s)
    | none => none
  | none => none

def enterF (f : FuncId) (args : List Value) (s : St) : Option (AEnd × St) :=
  match E.orc f args s with
  | some (v, s) => some (.ret v, s)
  | none => match E.ft.get f with
    | some fn => match fn.body with
      | some body =>
        match exec ⟨f, none⟩ body ⟨F.ofList args, max args.length fn.ntmps, []⟩ s with
        | some (.normal, fr, s) => leaveF E call fn fr s
        | some (.jump .ret, fr, s) => leaveF E call fn fr s
        | some (.panic chain, fr, s) => if fr.d.isEmpty then some (.panic chain, s) else none
        | _ => none
      | none => none
    | none => none

def jumpOf : AExit → Option Code
  | .jump c => some c
  | _ => none

def roundF (l : Nat) (args : List Value) (s : St) : Option (AEnd × St) :=
  match s.h.get l with
  | some (.loop .ready _ fn t n params assign body defers) =>
    if args.length = params.length then
      match exec ⟨fn, some l⟩ assign ((params.zip args).foldl (fun fr x => fr.put (some x.1) x.2) ⟨t, n, []⟩) s with
      | some (.normal, fr, s) =>
        match s.h.get l with
        | some (.loop .ready p fn' t n params assign' body' defers) =>
          match exec ⟨fn, some l⟩ body fr (s.put l (.loop .busy p fn' t n params assign' body' defers)) with
          | some (.panic _, _, _) => none
          | some (e, _, s) =>
            match s.h.get l with
            | some (.loop _ _ fn t n params assign body defers) =>
              some (.ret (.bool (jumpOf e).isNone), s.put l (.loop (if (jumpOf e).isNone then .ready else .done) (jumpOf e) fn t n params assign body defers))
            | _ => none
          | none => none
        | _ => none
      | _ => none
    else none
  | _ => none

def callA : ANext → St → Option (AEnd × St)
  | .enter f args, s => enterF E exec call f args s
  | .round l args, s => roundF exec l args s
  | _, _ => none

def rangeFuncF (ctx : Ctx) (f : Operand) (params : Array Tmp) (assign body : Code) (fr : Fr) (s : St) : Out :=
  let start : Option (Nat × List Deferred × St) := match ctx.round with
    | some l => match s.h.get l with
      | some (.loop _ _ _ _ _ _ _ _ d) => some (d, [], s)
      | _ => none
    | none => some (s.nx, [{ target := .collected s.nx, args := #[] }], s.alloc (.deferred (some [])))
  match start with
  | none => none
  | some (d, mark, s) =>
    let l := s.nx
    let s := s.alloc (.loop .ready none ctx.fn fr.t fr.n params.toList assign body d)
    let fr : Fr := { fr with d := mark ++ fr.d }
    match eval E fr f with
    | none => none
    | some g => match callV E g [.func (.yield l) #[] #[]] s with
      | some (.enter gf args) => match call (.enter gf args) s with
        | some (.ret _, s) => match s.h.get l with
          | some (.loop st pending fn t n ps as bo de) =>
            if decide (st = .busy) then none else
            let s := s.put l (.loop .exhausted pending fn t n ps as bo de)
            match pending with
            | none => some (.normal, fr, s)
            | some c => exec ctx c fr s
          | _ => none
        | some (.panic chain, s) => some (.panic chain, fr, s)
        | none => none
      | _ => none

def execF (ctx : Ctx) (c : Code) (fr : Fr) (s : St) : Out :=
  match c with
  | .skip | .label _ => some (.normal, fr, s)
  | .ret => some (.jump .ret, fr, s)
  | .exit i => some (.jump (.exit i), fr, s)
  | .goto l => some (.jump (.goto l), fr, s)
  | .seq a b => match exec ctx a fr s with
    | some (.normal, fr, s) => exec ctx b fr s
    | r => r
  | .cond c a b => match eval E fr c with
    | some (.bool true) => exec ctx a fr s
    | some (.bool false) => exec ctx b fr s
    | _ => none
  | .block id c => match exec ctx c fr s with
    | some (.jump (.exit i), fr, s) => if i = id then some (.normal, fr, s) else some (.jump (.exit i), fr, s)
    | r => r
  | .loop _ => none
  | .scope _ => none
  | .rangeFunc f ps a b => rangeFuncF E exec call ctx f ps a b fr s
  | .region _ ops draw => regionF E call ctx.round.isSome ops draw fr s
  | .refuse _ => none
end

/-- A scope: its code is entered anew at each label that is jumped to. -/
def scopeF (exec : Ctx → Code → Fr → St → Out) (ctx : Ctx) (whole : Code) : Nat → Code → Fr → St → Out
  | 0, _, _, _ => none
  | n + 1, c, fr, s => match exec ctx c fr s with
    | some (.jump (.goto l), fr, s) => match findLabel whole l with
      | some rest => scopeF exec ctx whole n rest fr s
      | none => some (.jump (.goto l), fr, s)
    | r => r

/-- A loop. -/
def loopF (exec : Ctx → Code → Fr → St → Out) (ctx : Ctx) (c : Code) : Nat → Fr → St → Out
  | 0, _, _ => none
  | n + 1, fr, s => match exec ctx c fr s with
    | some (.normal, fr, s) => loopF exec ctx c n fr s
    | r => r

def exec : Nat → Ctx → Code → Fr → St → Out
  | 0, _, _, _, _ => none
  | n + 1, ctx, c, fr, s =>
    match c with
    | .scope body => scopeF (exec n) ctx body n body fr s
    | .loop body => loopF (exec n) ctx body 100000 fr s
    | c => execF E (exec n) (call n) ctx c fr s
where
  call : Nat → ANext → St → Option (AEnd × St)
  | 0, _, _ => none
  | n + 1, a, s => callA E (exec n) (call n) a s

end Go.Eng

/- The abstract evaluator: laws of its frames. -/
namespace Go.Eng
namespace F
theorem get_set (t : F) (d : Nat) (v : Value) (i : Nat) : (t.set d v).get i = if i = d then v else t.get i := by
  unfold set get
  cases hd : Nat.blt d 256 <;> cases hi : Nat.blt i 256 <;> simp only [cond]
  · rw [T.get_set]
    split <;> rfl
  · have : i ≠ d := fun h => by rw [h, hd] at hi; cases hi
    rw [if_neg this]
  · have : i ≠ d := fun h => by rw [h, hd] at hi; cases hi
    rw [if_neg this]
  · rw [Nat.blt_eq] at hd hi
    rw [N16.get_set _ _ _ _ (by omega) (by omega)]
    by_cases h1 : i / 16 = d / 16
    · rw [if_pos h1, N16.get_set _ _ _ _ (by omega) (by omega)]
      by_cases h2 : i % 16 = d % 16
      · rw [if_pos h2, if_pos (by omega)]
      · rw [if_neg h2, if_neg (by omega), h1]
    · rw [if_neg h1, if_neg (by omega)]
theorem get_none (i : Nat) : none.get i = undef := by
  unfold get none
  cases Nat.blt i 256 <;> simp only [cond]
  · rfl
  · rw [N16.get_all, N16.get_all]
theorem get_ofListF : ∀ (l : List Value) (i : Nat) (t : F) (m : Nat), (ofListF l i t).get m = if i ≤ m ∧ m < i + l.length then l.getD (m - i) undef else t.get m
  | [], i, t, m => by simp [ofListF]; intro h1 h2; omega
  | a :: as, i, t, m => by
    rw [ofListF, get_ofListF as (i + 1), get_set]
    by_cases h1 : m = i
    · subst h1
      rw [if_neg (by omega), if_pos rfl, if_pos (by simp)]
      simp
    · by_cases h2 : i + 1 ≤ m ∧ m < i + 1 + as.length
      · rw [if_pos h2, if_pos (by simp only [List.length_cons]; omega)]
        have : m - i = (m - (i + 1)) + 1 := by omega
        rw [this]
        simp
      · rw [if_neg h2, if_neg h1, if_neg (by simp only [List.length_cons]; omega)]
theorem get_ofList (l : List Value) (m : Nat) : (ofList l).get m = l.getD m undef := by
  unfold ofList
  rw [get_ofListF, get_none]
  by_cases h : m < l.length
  · rw [if_pos (by omega)]; simp
  · rw [if_neg (by omega), List.getD_eq_getElem?_getD, List.getElem?_eq_none (by omega)]; rfl
end F
end Go.Eng

/- The abstract evaluator: how its values and its heap stand to the model's. -/
namespace Go.Eng

/-- Where a block lies in the model's heap: its number there, how many cells it has there, how many cells an element has; z: the range that is frozen there, where the block may not be touched. -/
structure Loc where
  c : Nat
  sz : Nat
  esz : Nat
  z : Option (Nat × Nat)
/-- Of a block, and of how many cells it had: where it lies. -/
abbrev Ren := Nat → Nat → Option Loc

def Fn.noYield : Fn → Prop
  | .yield _ => False
  | _ => True

mutual
inductive VRel (ρ : Ren) : Value → Value → Prop where
  | bool (b : Bool) : VRel ρ (.bool b) (.bool b)
  | int (k : IntKind) (n : Int) : VRel ρ (.int k n) (.int k n)
  | string (s : ByteArray) : VRel ρ (.string s) (.string s)
  | nilFunc : VRel ρ .nilFunc .nilFunc
  | nilIface : VRel ρ .nilIface .nilIface
  | ptrNil : VRel ρ (.pointer none) (.pointer none)
  | mapNil : VRel ρ (.map none) (.map none)
  | sliceNil (n c : Nat) : VRel ρ (.slice none n c) (.slice none n c)
  | ptr {b o hi : Nat} {L : Loc} (h : ρ b hi = some L) : VRel ρ (.pointer (some ⟨b, o, some hi⟩)) (.pointer (some ⟨L.c, o, none⟩))
  | slice {b o hi : Nat} {L : Loc} (n c : Nat) (h : ρ b hi = some L) : VRel ρ (.slice (some ⟨b, o, some hi⟩) n (c + 1)) (.slice (some ⟨L.c, o, none⟩) n c)
  | sliceOpen {b o hi : Nat} {L : Loc} (n c : Nat) (h : ρ b hi = some L) (hc : o + c * L.esz = L.sz) (he : 0 < L.esz) :
      VRel ρ (.slice (some ⟨b, o, some hi⟩) n 0) (.slice (some ⟨L.c, o, none⟩) n c)
  | sliceEnd {b o hi o' : Nat} {L : Loc} (h : ρ b hi = some L) (hlt : hi < o + L.esz) : VRel ρ (.slice (some ⟨b, o, some hi⟩) 0 0) (.slice (some ⟨L.c, o', none⟩) 0 0)
  | sliceZero {b o hi o' : Nat} {L : Loc} (h : ρ b hi = some L) : VRel ρ (.slice (some ⟨b, o, some hi⟩) 0 1) (.slice (some ⟨L.c, o', none⟩) 0 0)
  | map {b : Nat} {L : Loc} (h : ρ b 0 = some L) : VRel ρ (.map (some b)) (.map (some L.c))
  | func (fn : Fn) {f f' c c' : Array Value} (hn : Fn.noYield fn) (hf : VRels ρ f.toList f'.toList) (hc : VRels ρ c.toList c'.toList) : VRel ρ (.func fn f c) (.func fn f' c')
  | yield {l : Nat} {L : Loc} {f f' c c' : Array Value} (h : ρ l 0 = some L) (hf : VRels ρ f.toList f'.toList) (hc : VRels ρ c.toList c'.toList) : VRel ρ (.func (.yield l) f c) (.func (.yield L.c) f' c')
  | iface (t : TypeId) {v v' : Value} (h : VRel ρ v v') : VRel ρ (.iface t v) (.iface t v')
  | agg {a a' : Array Value} (h : VRels ρ a.toList a'.toList) : VRel ρ (.agg a) (.agg a')
  | tuple {a a' : Array Value} (h : VRels ρ a.toList a'.toList) : VRel ρ (.tuple a) (.tuple a')
inductive VRels (ρ : Ren) : List Value → List Value → Prop where
  | nil : VRels ρ [] []
  | cons {v v' : Value} {l l' : List Value} (h : VRel ρ v v') (hs : VRels ρ l l') : VRels ρ (v :: l) (v' :: l')
end

def Ren.le (ρ ρ' : Ren) : Prop := ∀ b hi L, ρ b hi = some L → ρ' b hi = some L

mutual
theorem VRel.mono {ρ ρ' : Ren} (le : ρ.le ρ') : ∀ {v v' : Value}, VRel ρ v v' → VRel ρ' v v'
  | _, _, .bool b => .bool b
  | _, _, .int k n => .int k n
  | _, _, .string s => .string s
  | _, _, .nilFunc => .nilFunc
  | _, _, .nilIface => .nilIface
  | _, _, .ptrNil => .ptrNil
  | _, _, .mapNil => .mapNil
  | _, _, .sliceNil n c => .sliceNil n c
  | _, _, .ptr h => .ptr (le _ _ _ h)
  | _, _, .slice n c h => .slice n c (le _ _ _ h)
  | _, _, .sliceOpen n c h hc he => .sliceOpen n c (le _ _ _ h) hc he
  | _, _, .sliceEnd h hlt => .sliceEnd (le _ _ _ h) hlt
  | _, _, .sliceZero h => .sliceZero (le _ _ _ h)
  | _, _, .map h => .map (le _ _ _ h)
  | _, _, .func fn hn hf hc => .func fn hn (hf.mono le) (hc.mono le)
  | _, _, .yield h hf hc => .yield (le _ _ _ h) (hf.mono le) (hc.mono le)
  | _, _, .iface t h => .iface t (h.mono le)
  | _, _, .agg h => .agg (h.mono le)
  | _, _, .tuple h => .tuple (h.mono le)
theorem VRels.mono {ρ ρ' : Ren} (le : ρ.le ρ') : ∀ {l l' : List Value}, VRels ρ l l' → VRels ρ' l l'
  | _, _, .nil => .nil
  | _, _, .cons h hs => .cons (h.mono le) (hs.mono le)
end

mutual
theorem VRel.of_flat (ρ : Ren) : ∀ (v : Value), flat v = true → VRel ρ v v
  | .bool b, _ => .bool b
  | .int k n, _ => .int k n
  | .string s, _ => .string s
  | .nilFunc, _ => .nilFunc
  | .nilIface, _ => .nilIface
  | .pointer none, _ => .ptrNil
  | .map none, _ => .mapNil
  | .slice none n c, _ => .sliceNil n c
  | .func (.func g) ⟨f⟩ ⟨c⟩, h => by
    simp only [flat, Bool.and_eq_true] at h
    exact .func _ trivial (VRels.of_flats ρ f h.1) (VRels.of_flats ρ c h.2)
  | .func (.via a b g d) ⟨f⟩ ⟨c⟩, h => by
    simp only [flat, Bool.and_eq_true] at h
    exact .func _ trivial (VRels.of_flats ρ f h.1) (VRels.of_flats ρ c h.2)
  | .func (.methodOf a b) ⟨f⟩ ⟨c⟩, h => by
    simp only [flat, Bool.and_eq_true] at h
    exact .func _ trivial (VRels.of_flats ρ f h.1) (VRels.of_flats ρ c h.2)
  | .func (.method _) _ _, h => by simp [flat] at h
  | .func (.yield _) _ _, h => by simp [flat] at h
  | .iface t v, h => .iface t (VRel.of_flat ρ v (by simpa [flat] using h))
  | .agg ⟨cs⟩, h => .agg (VRels.of_flats ρ cs (by simpa [flat] using h))
  | .tuple ⟨cs⟩, h => .tuple (VRels.of_flats ρ cs (by simpa [flat] using h))
  | .pointer (some _), h => by simp [flat] at h
  | .map (some _), h => by simp [flat] at h
  | .slice (some _) _ _, h => by simp [flat] at h
  | .float _ _, h => by simp [flat] at h
  | .complex _ _ _, h => by simp [flat] at h
  | .chan _, h => by simp [flat] at h
theorem VRels.of_flats (ρ : Ren) : ∀ (l : List Value), flats l = true → VRels ρ l l
  | [], _ => .nil
  | v :: l, h => by
    simp only [flats, Bool.and_eq_true] at h
    exact .cons (VRel.of_flat ρ v h.1) (VRels.of_flats ρ l h.2)
end

section lists
variable {ρ : Ren} {l l' m m' : List Value}
theorem VRels.length_eq : ∀ {l l' : List Value}, VRels ρ l l' → l.length = l'.length
  | _, _, .nil => rfl
  | _, _, .cons _ hs => by simp [hs.length_eq]
theorem VRels.append : ∀ {l l' : List Value}, VRels ρ l l' → VRels ρ m m' → VRels ρ (l ++ m) (l' ++ m')
  | _, _, .nil, h => h
  | _, _, .cons h hs, k => .cons h (hs.append k)
theorem VRels.take : ∀ (n : Nat) {l l' : List Value}, VRels ρ l l' → VRels ρ (l.take n) (l'.take n)
  | 0, _, _, _ => by simpa using VRels.nil
  | n + 1, _, _, .nil => by simpa using VRels.nil
  | n + 1, _, _, .cons h hs => by simpa using VRels.cons h (hs.take n)
theorem VRels.drop : ∀ (n : Nat) {l l' : List Value}, VRels ρ l l' → VRels ρ (l.drop n) (l'.drop n)
  | 0, _, _, h => by simpa using h
  | n + 1, _, _, .nil => by simpa using VRels.nil
  | n + 1, _, _, .cons _ hs => by simpa using hs.drop n
theorem VRels.get : ∀ (i : Nat) {l l' : List Value}, VRels ρ l l' → ∀ v, l[i]? = some v → ∃ v', l'[i]? = some v' ∧ VRel ρ v v'
  | _, _, _, .nil, v, h => by simp at h
  | 0, _, _, .cons h _, v, hv => by simp at hv; subst hv; exact ⟨_, rfl, h⟩
  | i + 1, _, _, .cons _ hs, v, hv => by simp at hv; obtain ⟨v', h1, h2⟩ := hs.get i v hv; exact ⟨v', by simpa using h1, h2⟩
theorem VRels.get_none (h : VRels ρ l l') (i : Nat) (hv : l[i]? = none) : l'[i]? = none := by
  rw [List.getElem?_eq_none_iff] at hv ⊢; rw [← h.length_eq]; exact hv
theorem VRels.of_get : ∀ {l l' : List Value}, l.length = l'.length → (∀ (i : Nat) (v : Value), l[i]? = some v → ∃ v', l'[i]? = some v' ∧ VRel ρ v v') → VRels ρ l l'
  | [], [], _, _ => .nil
  | [], _ :: _, h, _ => by simp at h
  | _ :: _, [], h, _ => by simp at h
  | a :: l, b :: l', h, k => by
    obtain ⟨v', h1, h2⟩ := k 0 a rfl
    simp at h1; subst h1
    exact .cons h2 (VRels.of_get (by simpa using h) fun i v hv => by simpa using k (i + 1) v (by simpa using hv))
theorem VRels.replicate {v v' : Value} (h : VRel ρ v v') : ∀ n, VRels ρ (List.replicate n v) (List.replicate n v')
  | 0 => .nil
  | n + 1 => .cons h (VRels.replicate h n)
end lists

/-- Entries of a map. -/
inductive ERels (ρ : Ren) : List MapEntry → List MapEntry → Prop where
  | nil : ERels ρ [] []
  | cons {e e' : MapEntry} {l l' : List MapEntry} (hk : VRel ρ e.key e'.key) (hv : VRel ρ e.val e'.val) (hb : e.born = e'.born) (hs : ERels ρ l l') : ERels ρ (e :: l) (e' :: l')

/-- Deferred calls. -/
inductive DRel (ρ : Ren) : Deferred → Deferred → Prop where
  | collected {b : Nat} {L : Loc} (h : ρ b 0 = some L) {a a' : Array Value} : DRel ρ ⟨.collected b, a⟩ ⟨.collected L.c, a'⟩
  | fn (f : Fn) {c c' a a' : Array Value} (hn : Fn.noYield f) (hc : VRels ρ c.toList c'.toList) (ha : VRels ρ a.toList a'.toList) : DRel ρ ⟨.fn f c, a⟩ ⟨.fn f c', a'⟩
inductive DRels (ρ : Ren) : List Deferred → List Deferred → Prop where
  | nil : DRels ρ [] []
  | cons {d d' : Deferred} {l l' : List Deferred} (h : DRel ρ d d') (hs : DRels ρ l l') : DRels ρ (d :: l) (d' :: l')

theorem ERels.mono {ρ ρ' : Ren} (le : ρ.le ρ') : ∀ {l l' : List MapEntry}, ERels ρ l l' → ERels ρ' l l'
  | _, _, .nil => .nil
  | _, _, .cons hk hv hb hs => .cons (hk.mono le) (hv.mono le) hb (hs.mono le)
theorem DRel.mono {ρ ρ' : Ren} (le : ρ.le ρ') : ∀ {d d' : Deferred}, DRel ρ d d' → DRel ρ' d d'
  | _, _, .collected h => .collected (le _ _ _ h)
  | _, _, .fn f hn hc ha => .fn f hn (hc.mono le) (ha.mono le)
theorem DRels.mono {ρ ρ' : Ren} (le : ρ.le ρ') : ∀ {l l' : List Deferred}, DRels ρ l l' → DRels ρ' l l'
  | _, _, .nil => .nil
  | _, _, .cons h hs => .cons (h.mono le) (hs.mono le)
theorem DRels.append {ρ : Ren} {m m' : List Deferred} : ∀ {l l' : List Deferred}, DRels ρ l l' → DRels ρ m m' → DRels ρ (l ++ m) (l' ++ m')
  | _, _, .nil, h => h
  | _, _, .cons h hs, k => .cons h (hs.append k)

/-- The temporaries of an activation. -/
structure TRel (ρ : Ren) (t : F) (n : Nat) (tmps : Array Value) : Prop where
  n : n = tmps.size
  v : ∀ i, VRel ρ (t.get i) (tmps.getD i undef)
theorem TRel.mono {ρ ρ' : Ren} (le : ρ.le ρ') {t : F} {n : Nat} {tmps : Array Value} (h : TRel ρ t n tmps) : TRel ρ' t n tmps := ⟨h.n, fun i => (h.v i).mono le⟩

variable (E : Env)

/-- One block. -/
def ORel (ρ : Ren) (hi : Nat) (L : Loc) : AObj → Obj → Prop
  | .cells cs e wsz frz ex, .cells ca e' fz =>
    e' = e ∧ hi ≤ cs.length ∧ hi ≤ L.sz ∧ ca.size = L.sz ∧ L.esz = (E.size e).getD 0 ∧ wsz ≤ cs.length ∧
    (wsz ≤ hi → VRels ρ (cs.take hi) (ca.toList.take hi)) ∧
    (frz = false → ∀ i, i < L.sz → ¬ (fz.1 ≤ i ∧ i < fz.2)) ∧ (ex = true → L.sz = cs.length)
  | .map es clock, .map es' clock' => hi = 0 ∧ clock = clock' ∧ ERels ρ es es'.toList
  | .siter b pos, .stringIter b' pos' => hi = 0 ∧ b = b' ∧ pos = pos'
  | .miter m since seen stepped, .mapIter m' since' seen' stepped' => hi = 0 ∧ since = since' ∧ seen = seen'.toList ∧ stepped = stepped' ∧
    ((m = none ∧ m' = none) ∨ ∃ b L', m = some b ∧ m' = some (Loc.c L') ∧ ρ b 0 = some L')
  | .loop st pe fn t n ps as bo de, .loop r => hi = 0 ∧ r.state = st ∧ r.pending = pe ∧ r.fn = fn ∧ TRel ρ t n r.tmps ∧ r.params.toList = ps ∧ r.assign = as ∧ r.body = bo ∧
    ∃ L', ρ de 0 = some L' ∧ r.defers = L'.c
  | .deferred none, .deferred none => hi = 0
  | .deferred (some ds), .deferred (some ds') => hi = 0 ∧ DRels ρ ds ds'
  | _, _ => False

structure Rel (ρ : Ren) (s : St) (w : World) : Prop where
  glob : ∀ g v, E.glob g = some v → VRel ρ v (.pointer (some ⟨g, 0, none⟩))
  fresh : ∀ b hi, s.nx ≤ b → ρ b hi = none
  own : ∀ b hi L b' hi' L', ρ b hi = some L → ρ b' hi' = some L' → L.c = L'.c → b = b'
  obj : ∀ b hi L, ρ b hi = some L → ∃ o o', s.h.get b = some o ∧ w.heap[L.c]? = some o' ∧ ORel E ρ hi L o o'
  ro : ∀ b hi L q, ρ b hi = some L → L.z = some q → (∃ cs e wz ex, s.h.get b = some (.cells cs e wz true ex)) ∧ ∃ ca e, w.heap[L.c]? = some (.cells ca e q)

/-- What has become of things. -/
structure Ev (ρ : Ren) (s : St) (w : World) (ρ' : Ren) (s' : St) (w' : World) : Prop where
  le : ρ.le ρ'
  stays : ∀ b, b < s.nx → (∀ hi, ρ b hi = none) → ∀ hi, ρ' b hi = none
  range : ∀ b hi L, ρ' b hi = some L → w.heap.size ≤ L.c ∨ ∃ hi0 L0, ρ b hi0 = some L0 ∧ L0.c = L.c
  nx : s.nx ≤ s'.nx
  os : w'.os = w.os
  tape : w'.tape = w.tape
  output : w'.output = w.output
  size : w.heap.size ≤ w'.heap.size
  keep : ∀ c, c < w.heap.size → (∀ b hi L, ρ b hi = some L → L.c ≠ c) → w'.heap[c]? = w.heap[c]?

theorem Ev.refl (ρ : Ren) (s : St) (w : World) : Ev ρ s w ρ s w :=
  ⟨fun _ _ _ h => h, fun _ _ h => h, fun b hi L h => .inr ⟨hi, L, h, rfl⟩, Nat.le_refl _, rfl, rfl, rfl, Nat.le_refl _, fun _ _ _ => rfl⟩
theorem Ev.trans {ρ ρ1 ρ2 : Ren} {s s1 s2 : St} {w w1 w2 : World} (h : Ev ρ s w ρ1 s1 w1) (k : Ev ρ1 s1 w1 ρ2 s2 w2) : Ev ρ s w ρ2 s2 w2 where
  le := fun b hi L e => k.le _ _ _ (h.le _ _ _ e)
  stays := fun b hb e => k.stays b (Nat.lt_of_lt_of_le hb h.nx) (h.stays b hb e)
  range := fun b hi L e => by
    rcases k.range b hi L e with h1 | ⟨hi0, L0, h1, h2⟩
    · exact .inl (Nat.le_trans h.size h1)
    · rcases h.range b hi0 L0 h1 with h3 | ⟨hi1, L1, h3, h4⟩
      · exact .inl (h2 ▸ h3)
      · exact .inr ⟨hi1, L1, h3, h4.trans h2⟩
  nx := Nat.le_trans h.nx k.nx
  os := k.os.trans h.os
  tape := k.tape.trans h.tape
  output := k.output.trans h.output
  size := Nat.le_trans h.size k.size
  keep := fun c hc hn => by
    refine (k.keep c (Nat.lt_of_lt_of_le hc h.size) fun b hi L e he => ?_).trans (h.keep c hc hn)
    rcases h.range b hi L e with h1 | ⟨hi0, L0, h1, h2⟩
    · omega
    · exact hn b hi0 L0 h1 (h2.trans he)

/-- What may be written is not kept as it was. -/
theorem Rel.zfree {ρ : Ren} {s : St} {w : World} (h : Rel E ρ s w) {b : Nat} {o : AObj} (hg : s.h.get b = some o) (ho : ∀ cs e wz ex, o ≠ .cells cs e wz true ex) : ∀ hi L q, ρ b hi = some L → L.z = some q → False := by
  intro hi L q e hz
  obtain ⟨⟨cs, e', wz, ex, h1⟩, _⟩ := h.ro b hi L q e hz
  rw [hg] at h1; cases h1; exact ho _ _ _ _ rfl
theorem Rel.lt {ρ : Ren} {s : St} {w : World} (h : Rel E ρ s w) {b hi : Nat} {L : Loc} (e : ρ b hi = some L) : b < s.nx := by
  rcases Nat.lt_or_ge b s.nx with h1 | h1
  · exact h1
  · rw [h.fresh b hi h1] at e; cases e
theorem Rel.clt {ρ : Ren} {s : St} {w : World} (h : Rel E ρ s w) {b hi : Nat} {L : Loc} (e : ρ b hi = some L) : L.c < w.heap.size := by
  obtain ⟨o, o', _, h2, _⟩ := h.obj b hi L e
  exact (Array.getElem?_eq_some_iff.1 h2).1

theorem ORel.mono {ρ ρ' : Ren} (le : ρ.le ρ') {hi : Nat} {L : Loc} {o : AObj} {o' : Obj} (h : ORel E ρ hi L o o') : ORel E ρ' hi L o o' := by
  cases o <;> cases o' <;> simp only [ORel] at h ⊢
  case cells.cells =>
    obtain ⟨h1, h2, h3, h4, h5, h6, h7, h8, h9⟩ := h
    exact ⟨h1, h2, h3, h4, h5, h6, fun hw => (h7 hw).mono le, h8, h9⟩
  case map.map => exact ⟨h.1, h.2.1, h.2.2.mono le⟩
  case siter.stringIter => exact h
  case miter.mapIter =>
    obtain ⟨h1, h2, h3, h4, h5⟩ := h
    refine ⟨h1, h2, h3, h4, ?_⟩
    rcases h5 with h5 | ⟨b, L', h5, h6, h7⟩
    · exact .inl h5
    · exact .inr ⟨b, L', h5, h6, le _ _ _ h7⟩
  case loop.loop =>
    obtain ⟨h1, h2, h3, h4, h5, h6, h7, h8, L', h9, h10⟩ := h
    exact ⟨h1, h2, h3, h4, h5.mono le, h6, h7, h8, L', le _ _ _ h9, h10⟩
  case deferred.deferred a b =>
    cases a <;> cases b <;> simp only [ORel] at h ⊢
    · exact h
    · exact ⟨h.1, h.2.mono le⟩

end Go.Eng
