/- feed.row.digits: the region that lays a digit, and the loop. -/
import Derived.Test.YtkgapncajjafoaaGreatDoorRow
set_option linter.all false
set_option maxRecDepth 100000
namespace Go.Proofs.YtkgapncajjafoaaGreatDoor
open Go Go.Eng
section
variable {t : F} {s : St}
theorem ls_step {i d l k : Nat} {rest : List (Nat × Nat × Nat)} {made : List (Nat × Nat)} {v : Value} {s' : St} (ho : lOps[i]? = some (lo i)) (hw : ∀ fr, wantedA lOps fr (lo i) = true) (hc : cls EB (lo i) = 0) (hd : (lo i).dst = some d) (hlt : Nat.blt d 42 = true)
    (he : evalOp EB ⟨t, 42, []⟩ (lo i) s = some (.val v s')) : stageF EB lOps k ((i, k, l) :: rest) ⟨t, 42, []⟩ s made = stageF EB lOps k rest ⟨t.set d v, 42, []⟩ s made := by
  rw [stageF_step ho (hw _) hc he, hd]
  simp [Fr.put, hlt]
theorem tm (t : F) (i : Nat) : (⟨t, 42, []⟩ : Fr).tmp i = t.get i := rfl
def t12 (t : F) (p x : Value) (n k q : Nat) : F := ((((((((((((t.set 27 p).set 28 p).set 29 p).set 30 p).set 31 x).set 32 (.int .u64 (.ofNat n))).set 33 (.int .i64 (.ofNat k))).set 34 (.int .i64 (.ofNat (4 * k)))).set 35 (.int .u64 (.ofNat (n / 2 ^ (4 * k))))).set 36 (.int .u64 (.ofNat (n / 2 ^ (4 * k) % 16)))).set 37 (.int .u8 (.ofNat (hexD (n / 2 ^ (4 * k) % 16))))).set 38 (.slice (some ⟨q, 0, some 1⟩) 1 2))
def pR (r : Nat) : Value := .pointer (some ⟨r, 0, some 1⟩)
theorem stage0 {r n k : Nat} {x : Value} {e : TypeId} {z f : Bool} (h0 : t.get 0 = pR r) (h1 : t.get 1 = .int .u64 (.ofNat n)) (h7 : t.get 7 = .int .i64 (.ofNat k)) (hn : n < 2 ^ 64) (hk : k < 16) (hg : s.h.get r = some (.cells [x] e 1 f z)) :
    stageF EB lOps 0 [(0, 0, 1), (1, 0, 0), (2, 0, 0), (3, 0, 0), (4, 0, 0), (5, 0, 0), (6, 0, 0), (7, 0, 0), (8, 0, 0), (9, 0, 0), (10, 0, 0), (11, 0, 0), (13, 1, 1), (14, 1, 1)] ⟨t, 42, []⟩ s [] =
      some (⟨t12 t (pR r) x n k s.nx, 42, []⟩, s.alloc (.cells [.int .u8 (.ofNat (hexD (n / 2 ^ (4 * k) % 16)))] 5 1 false true), [(11, s.nx)]) := by
  have hd : n / 2 ^ (4 * k) < 2 ^ 64 := Nat.lt_of_le_of_lt (Nat.div_le_self _ _) hn
  rw [ls_step (s' := s) (v := pR r) lg0 lw0 lc0 ld0 rfl (by rw [le_move lp0, tm, h0])]
  rw [ls_step (s' := s) (v := pR r) lg1 lw1 lc1 ld1 rfl (by rw [le_move lp1, tm]; simp [F.get_set, h0])]
  rw [ls_step (s' := s) (v := pR r) lg2 lw2 lc2 ld2 rfl (by exact le_nil lp2 (by rw [tm]; simp [F.get_set, pR]))]
  rw [ls_step (s' := s) (v := pR r) lg3 lw3 lc3 ld3 rfl (by exact le_field (a := ⟨r, 0, some 1⟩) lp3 (by rw [tm]; simp [F.get_set, pR]))]
  rw [ls_step (s' := s) (v := x) lg4 lw4 lc4 ld4 rfl (by exact le_load (r := r) (by rw [tm]; simp [F.get_set, pR]) hg)]
  rw [ls_step (s' := s) (v := .int .u64 (.ofNat n)) lg5 lw5 lc5 ld5 rfl (by rw [le_move lp5, tm]; simp [F.get_set, h1])]
  rw [ls_step (s' := s) (v := .int .i64 (.ofNat k)) lg6 lw6 lc6 ld6 rfl (by rw [le_move lp6, tm]; simp [F.get_set, h7])]
  rw [ls_step (s' := s) (v := .int .i64 (.ofNat (4 * k))) lg7 lw7 lc7 ld7 rfl (by exact le_mul hk (by rw [tm]; simp [F.get_set]))]
  rw [ls_step (s' := s) (v := .int .u64 (.ofNat (n / 2 ^ (4 * k)))) lg8 lw8 lc8 ld8 rfl (by exact le_shr (by omega) (by rw [tm]; simp [F.get_set]) (by rw [tm]; simp [F.get_set]))]
  rw [ls_step (s' := s) (v := .int .u64 (.ofNat (n / 2 ^ (4 * k) % 16))) lg9 lw9 lc9 ld9 rfl (by exact le_and (by rw [tm]; simp [F.get_set]) hd)]
  rw [ls_step (s' := s) (v := .int .u8 (.ofNat (hexD (n / 2 ^ (4 * k) % 16)))) lg10 lw10 lc10 ld10 rfl (by exact le_index (Nat.mod_lt _ (by decide)) (by rw [tm]; simp [F.get_set]))]
  rw [stageF_made lg11 (lw11 _) lc11 (le_slice (c := hexD (n / 2 ^ (4 * k) % 16)) (by rw [tm]; simp [F.get_set])) (obj := .cells [.int .u8 (.ofNat (hexD (n / 2 ^ (4 * k) % 16)))] 5 1 false true) (by simp [St.alloc, HQ.get_set]), ld11]
  rfl
theorem la_step {i est lst d k : Nat} {rest : List (Nat × Nat × Nat)} {made : List (Nat × Nat)} {v : Value} (ho : lOps[i]? = some (lo i)) (hw : ∀ fr, wantedA lOps fr (lo i) = true) (hc : cls EB (lo i) = 0) (hd : (lo i).dst = some d)
    (he : evalOp EB ⟨t, 42, []⟩ (lo i) s = some (.val v s)) (hv : t.get d = v) (hq : veq v v = true) (h : againF EB lOps k ⟨t, 42, []⟩ s made rest = true) : againF EB lOps k ⟨t, 42, []⟩ s made ((i, est, lst) :: rest) = true :=
  againF_step ho (hw _) hc he hd hv hq h
theorem q_int (k : IntKind) (n : Int) : veq (.int k n) (.int k n) = true := by simp [veq, eqI_refl]
theorem q_ptr (a : Option Addr) : veq (.pointer a) (.pointer a) = true := by simp [veq]
theorem q_sl (a : Option Addr) (m c : Nat) : veq (.slice a m c) (.slice a m c) = true := by simp [veq]
theorem again0 {r n k q : Nat} {x : Value} {e : TypeId} {z f : Bool} (h0 : t.get 0 = pR r) (h1 : t.get 1 = .int .u64 (.ofNat n)) (h7 : t.get 7 = .int .i64 (.ofNat k)) (hn : n < 2 ^ 64) (hk : k < 16) (hr : r < q) (hq : s.nx = q) (hx : veq x x = true) (hg : s.h.get r = some (.cells [x] e 1 f z)) :
    againF EB lOps 0 ⟨t12 t (pR r) x n k q, 42, []⟩ (s.alloc (.cells [.int .u8 (.ofNat (hexD (n / 2 ^ (4 * k) % 16)))] 5 1 false true)) [(11, q)]
      [(0, 0, 1), (1, 0, 0), (2, 0, 0), (3, 0, 0), (4, 0, 0), (5, 0, 0), (6, 0, 0), (7, 0, 0), (8, 0, 0), (9, 0, 0), (10, 0, 0), (11, 0, 0), (13, 1, 1), (14, 1, 1)] = true := by
  subst hq
  have hd : n / 2 ^ (4 * k) < 2 ^ 64 := Nat.lt_of_le_of_lt (Nat.div_le_self _ _) hn
  have hg' : (s.alloc (.cells [.int .u8 (.ofNat (hexD (n / 2 ^ (4 * k) % 16)))] 5 1 false true)).h.get r = some (.cells [x] e 1 f z) := by
    rw [show (s.alloc (.cells [.int .u8 (.ofNat (hexD (n / 2 ^ (4 * k) % 16)))] 5 1 false true)).h = s.h.set s.nx _ from rfl, HQ.get_set, if_neg (by omega), hg]
  generalize hT : t12 t (pR r) x n k s.nx = T
  have g0 : T.get 0 = pR r := by rw [← hT]; simp [t12, F.get_set, h0]
  have g1 : T.get 1 = .int .u64 (.ofNat n) := by rw [← hT]; simp [t12, F.get_set, h1]
  have g7 : T.get 7 = .int .i64 (.ofNat k) := by rw [← hT]; simp [t12, F.get_set, h7]
  have g27 : T.get 27 = pR r := by rw [← hT]; simp [t12, F.get_set]
  have g28 : T.get 28 = pR r := by rw [← hT]; simp [t12, F.get_set]
  have g29 : T.get 29 = pR r := by rw [← hT]; simp [t12, F.get_set]
  have g30 : T.get 30 = pR r := by rw [← hT]; simp [t12, F.get_set]
  have g31 : T.get 31 = x := by rw [← hT]; simp [t12, F.get_set]
  have g32 : T.get 32 = .int .u64 (.ofNat n) := by rw [← hT]; simp [t12, F.get_set]
  have g33 : T.get 33 = .int .i64 (.ofNat k) := by rw [← hT]; simp [t12, F.get_set]
  have g34 : T.get 34 = .int .i64 (.ofNat (4 * k)) := by rw [← hT]; simp [t12, F.get_set]
  have g35 : T.get 35 = .int .u64 (.ofNat (n / 2 ^ (4 * k))) := by rw [← hT]; simp [t12, F.get_set]
  have g36 : T.get 36 = .int .u64 (.ofNat (n / 2 ^ (4 * k) % 16)) := by rw [← hT]; simp [t12, F.get_set]
  have g37 : T.get 37 = .int .u8 (.ofNat (hexD (n / 2 ^ (4 * k) % 16))) := by rw [← hT]; simp [t12, F.get_set]
  have g38 : T.get 38 = .slice (some ⟨s.nx, 0, some 1⟩) 1 2 := by rw [← hT]; simp [t12, F.get_set]
  refine la_step lg0 lw0 lc0 ld0 (le_move lp0) (by rw [tm, g27, g0]) (by rw [tm, g0]; exact q_ptr _) ?_
  refine la_step lg1 lw1 lc1 ld1 (le_move lp1) (by rw [tm, g28, g0]) (by rw [tm, g0]; exact q_ptr _) ?_
  refine la_step lg2 lw2 lc2 ld2 (le_nil lp2 (by rw [tm]; exact g28)) g29 (q_ptr _) ?_
  refine la_step lg3 lw3 lc3 ld3 (le_field lp3 (a := ⟨r, 0, some 1⟩) (by rw [tm]; exact g29)) g30 (q_ptr _) ?_
  refine la_step lg4 lw4 lc4 ld4 (le_load (by rw [tm]; exact g30) hg') g31 hx ?_
  refine la_step lg5 lw5 lc5 ld5 (le_move lp5) (by rw [tm, g32, g1]) (by rw [tm, g1]; exact q_int _ _) ?_
  refine la_step lg6 lw6 lc6 ld6 (le_move lp6) (by rw [tm, g33, g7]) (by rw [tm, g7]; exact q_int _ _) ?_
  refine la_step lg7 lw7 lc7 ld7 (le_mul hk (by rw [tm]; exact g33)) g34 (q_int _ _) ?_
  refine la_step lg8 lw8 lc8 ld8 (le_shr (by omega) (by rw [tm]; exact g32) (by rw [tm]; exact g34)) g35 (q_int _ _) ?_
  refine la_step lg9 lw9 lc9 ld9 (le_and (by rw [tm]; exact g35) hd) g36 (q_int _ _) ?_
  refine la_step lg10 lw10 lc10 ld10 (le_index (Nat.mod_lt _ (by decide)) (by rw [tm]; exact g36)) g37 (q_int _ _) ?_
  refine againF_made (b := s.nx) (obj := .cells [.int .u8 (.ofNat (hexD (n / 2 ^ (4 * k) % 16)))] 5 1 false true) lg11 (lw11 _) lc11 (by simp) (by simp [St.alloc, HQ.get_set]) (le_slice (c := hexD (n / 2 ^ (4 * k) % 16)) (by rw [tm]; exact g37)) (by simp [St.alloc, HQ.get_set]) ld11 (by rw [tm]; exact g38) (q_sl _ _ _) (by simp [oeq, veqs, q_int]) ?_
  exact againF_past (by decide) (againF_past (by decide) rfl)
theorem ls_skip {i est l k : Nat} {rest : List (Nat × Nat × Nat)} {fr : Fr} {made : List (Nat × Nat)} (h : Nat.beq est k = false) : stageF EB lOps k ((i, est, l) :: rest) fr s made = stageF EB lOps k rest fr s made := by
  simp only [stageF, h]; rfl
def t13 (t : F) (p x : Value) (n k q : Nat) (v : Value) : F := (((t12 t p x n k q).set 39 v).set 40 p).set 41 p
theorem region6 {call : ANext → St → Option (AEnd × St)} {r n k m : Nat} {base : Option Addr} {b : Nat} {s2 : St} (h0 : t.get 0 = pR r) (h1 : t.get 1 = .int .u64 (.ofNat n)) (h7 : t.get 7 = .int .i64 (.ofNat k)) (hn : n < 2 ^ 64) (hk : k < 16) (hm : m < 1000) (hr : r < s.nx)
    (hg : s.h.get r = some (.cells [.slice base m 0] 69 1 false true))
    (hv : growV (s.alloc (.cells [.int .u8 (.ofNat (hexD (n / 2 ^ (4 * k) % 16)))] 5 1 false true)) 5 1 base m 0 1 [.int .u8 (.ofNat (hexD (n / 2 ^ (4 * k) % 16)))] = some (.slice (some ⟨b, 0, some (m + 1)⟩) (m + 1) 0, s2))
    (hg2 : s2.h.get r = some (.cells [.slice base m 0] 69 1 false true)) :
    regionF EB call false lOps true ⟨t, 42, []⟩ s = some (.normal, ⟨t13 t (pR r) (.slice base m 0) n k s.nx (.slice (some ⟨b, 0, some (m + 1)⟩) (m + 1) 0), 42, []⟩, s2.put r (.cells [.slice (some ⟨b, 0, some (m + 1)⟩) (m + 1) 0] 69 1 false true)) := by
  unfold regionF
  simp only [if_true, lPlan]
  rw [stagesF, stage0 h0 h1 h7 hn hk hg]
  simp only
  rw [again0 h0 h1 h7 hn hk hr rfl (q_sl _ _ _) hg]
  simp only [if_true]
  have ea : opsF EB call false lOps [12] ⟨t12 t (pR r) (.slice base m 0) n k s.nx, 42, []⟩ (s.alloc (.cells [.int .u8 (.ofNat (hexD (n / 2 ^ (4 * k) % 16)))] 5 1 false true)) = some (.normal, ⟨(t12 t (pR r) (.slice base m 0) n k s.nx).set 39 (.slice (some ⟨b, 0, some (m + 1)⟩) (m + 1) 0), 42, []⟩, s2) := by
    have e := le_append (fr := ⟨t12 t (pR r) (.slice base m 0) n k s.nx, 42, []⟩) (q := s.nx) (base := base) hm (by rw [tm]; simp [t12, F.get_set]) (by rw [tm]; simp [t12, F.get_set]) (by simp [St.alloc, HQ.get_set]) hv
    simp only [opsF, lg12, lw12, if_true, e, onNext, ld12]
    rfl
  rw [ea]
  simp only
  rw [stagesF]
  generalize hT : (t12 t (pR r) (.slice base m 0) n k s.nx).set 39 (.slice (some ⟨b, 0, some (m + 1)⟩) (m + 1) 0) = T
  have g0 : T.get 0 = pR r := by rw [← hT]; simp [t12, F.get_set, h0]
  have g27 : T.get 27 = pR r := by rw [← hT]; simp [t12, F.get_set]
  have g39 : T.get 39 = .slice (some ⟨b, 0, some (m + 1)⟩) (m + 1) 0 := by rw [← hT]; simp [t12, F.get_set]
  have es : stageF EB lOps 1 [(0, 0, 1), (1, 0, 0), (2, 0, 0), (3, 0, 0), (4, 0, 0), (5, 0, 0), (6, 0, 0), (7, 0, 0), (8, 0, 0), (9, 0, 0), (10, 0, 0), (11, 0, 0), (13, 1, 1), (14, 1, 1)] ⟨T, 42, []⟩ s2 [(11, s.nx)] = some (⟨(T.set 40 (pR r)).set 41 (pR r), 42, []⟩, s2, [(11, s.nx)]) := by
    iterate 12 rw [ls_skip rfl]
    rw [ls_step (s' := s2) (v := pR r) lg13 lw13 lc13 ld13 rfl (by exact le_nil lp13 (by rw [tm]; exact g27))]
    rw [ls_step (s' := s2) (v := pR r) lg14 lw14 lc14 ld14 rfl (by exact le_field (a := ⟨r, 0, some 1⟩) lp14 (by rw [tm]; simp [F.get_set, pR]))]
    rfl
  rw [es]
  simp only
  have eg : againF EB lOps 1 ⟨(T.set 40 (pR r)).set 41 (pR r), 42, []⟩ s2 [(11, s.nx)] [(0, 0, 1), (1, 0, 0), (2, 0, 0), (3, 0, 0), (4, 0, 0), (5, 0, 0), (6, 0, 0), (7, 0, 0), (8, 0, 0), (9, 0, 0), (10, 0, 0), (11, 0, 0), (13, 1, 1), (14, 1, 1)] = true := by
    refine la_step lg0 lw0 lc0 ld0 (le_move lp0) (by rw [tm]; simp [F.get_set, g27, g0]) (by rw [tm]; simp only [F.get_set]; simp [g0]; exact q_ptr _) ?_
    iterate 11 refine againF_past (by decide) ?_
    refine la_step lg13 lw13 lc13 ld13 (le_nil (a := ⟨r, 0, some 1⟩) lp13 (by rw [tm]; simp [F.get_set, g27, pR])) (by simp [F.get_set, pR]) (q_ptr _) ?_
    refine la_step lg14 lw14 lc14 ld14 (le_field (a := ⟨r, 0, some 1⟩) lp14 (by rw [tm]; simp [F.get_set, pR])) (by simp [F.get_set, pR]) (q_ptr _) ?_
    rfl
  rw [eg]
  simp only [if_true]
  have eb : opsF EB call false lOps [15] ⟨(T.set 40 (pR r)).set 41 (pR r), 42, []⟩ s2 = some (.normal, ⟨(T.set 40 (pR r)).set 41 (pR r), 42, []⟩, s2.put r (.cells [.slice (some ⟨b, 0, some (m + 1)⟩) (m + 1) 0] 69 1 false true)) := by
    have e := le_store (fr := ⟨(T.set 40 (pR r)).set 41 (pR r), 42, []⟩) (s := s2) (r := r) (b := b) (m := m + 1) (by rw [tm]; simp [F.get_set, pR]) (by rw [tm]; simp [F.get_set, g39]) hg2
    simp only [opsF, lg15, lw15, if_true, e, onNext, ld15]
    rfl
  rw [eb]
  simp only
  rw [stagesF]
  have ez : ∀ fr s made, stageF EB lOps 2 [(0, 0, 1), (1, 0, 0), (2, 0, 0), (3, 0, 0), (4, 0, 0), (5, 0, 0), (6, 0, 0), (7, 0, 0), (8, 0, 0), (9, 0, 0), (10, 0, 0), (11, 0, 0), (13, 1, 1), (14, 1, 1)] fr s made = some (fr, s, made) := by
    intro fr s made
    iterate 14 rw [ls_skip rfl]
    rfl
  have ey : ∀ fr s made, againF EB lOps 2 fr s made [(0, 0, 1), (1, 0, 0), (2, 0, 0), (3, 0, 0), (4, 0, 0), (5, 0, 0), (6, 0, 0), (7, 0, 0), (8, 0, 0), (9, 0, 0), (10, 0, 0), (11, 0, 0), (13, 1, 1), (14, 1, 1)] = true := by
    intro fr s made
    iterate 14 refine againF_past (by decide) ?_
    rfl
  rw [ez]
  simp only
  rw [ey]
  simp only [if_true]
  rw [← hT]
  rfl
end
end Go.Proofs.YtkgapncajjafoaaGreatDoor
