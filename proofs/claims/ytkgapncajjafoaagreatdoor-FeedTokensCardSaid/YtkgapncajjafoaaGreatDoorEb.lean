/- The abstract evaluator of the model, part b: definitions and laws, of no program. -/
import Derived.Test.YtkgapncajjafoaaGreatDoorEa
import Derived.Laws.Small
import Derived.Laws.StructEq
import Derived.IntWalk
set_option linter.unusedVariables false
set_option linter.unusedSimpArgs false
/- The abstract evaluator: reading, writing, making blocks, on both sides. -/
namespace Go.Eng
variable {P : Program}

theorem alloc_heap (w : World) (o : Obj) (k : Nat) : (w.alloc o).heap[k]? = if k = w.heap.size then some o else w.heap[k]? := by
  show (w.heap.push o)[k]? = _
  rw [Array.getElem?_push]

theorem add_eq (c o n : Nat) : (⟨c, o, none⟩ : Addr).add n = ⟨c, o + n, none⟩ := by
  unfold Addr.add; split
  · subst_vars; rfl
  · rfl

theorem cell_of {w : World} {c : Nat} {ca : Array Value} {e : TypeId} {fz : Nat × Nat} (h : w.heap[c]? = some (.cells ca e fz)) (o : Nat) : w.cell? ⟨c, o, none⟩ = ca[o]? := by
  simp [World.cell?, h]
theorem frozen_of {w : World} {c : Nat} {ca : Array Value} {e : TypeId} {fz : Nat × Nat} (h : w.heap[c]? = some (.cells ca e fz)) (o : Nat) : w.frozen? ⟨c, o, none⟩ = (decide (fz.1 ≤ o) && decide (o < fz.2)) := by
  obtain ⟨a, b⟩ := fz
  simp [World.frozen?, h]

/-- One cell is read. -/
theorem run_load_at {w : World} {c : Nat} {ca : Array Value} {e : TypeId} {fz : Nat × Nat} (h : w.heap[c]? = some (.cells ca e fz)) {o : Nat} {v : Value} (hv : ca[o]? = some v) :
    (load ⟨c, o, none⟩).run P w = .ok v w := by
  rw [run_load, cell_of h, hv]

theorem run_loadCellsFrom {w : World} {c : Nat} {ca : Array Value} {e : TypeId} {fz : Nat × Nat} (h : w.heap[c]? = some (.cells ca e fz)) (o : Nat) :
    ∀ (n i : Nat) (acc : Array Value), o + i + n ≤ ca.size → (loadCellsFrom ⟨c, o, none⟩ i n acc).run P w = .ok (acc ++ ((ca.toList.drop (o + i)).take n).toArray) w
  | 0, i, acc, _ => by simp [loadCellsFrom]
  | n + 1, i, acc, hb => by
    have hlt : o + i < ca.size := by omega
    have hv : ca[o + i]? = some ca[o + i] := Array.getElem?_eq_getElem hlt
    rw [loadCellsFrom, Sem.run_bind, add_eq, run_load_at h hv, Result.andThen_ok, run_loadCellsFrom h o n (i + 1) _ (by omega)]
    have hd : ca.toList.drop (o + i) = ca[o + i] :: ca.toList.drop (o + (i + 1)) := by
      rw [List.drop_eq_getElem_cons (by simpa using hlt)]; rfl
    rw [hd, List.take_succ_cons]
    simp
theorem run_loadCells {w : World} {c : Nat} {ca : Array Value} {e : TypeId} {fz : Nat × Nat} (h : w.heap[c]? = some (.cells ca e fz)) {o n : Nat} (hb : o + n ≤ ca.size) :
    (loadCells ⟨c, o, none⟩ n).run P w = .ok ((ca.toList.drop o).take n).toArray w := by
  rw [loadCells, run_loadCellsFrom h o n 0 #[] (by omega)]; simp

/-- One block is another one. -/
structure Upd (w : World) (c : Nat) (o : Obj) (w' : World) : Prop where
  here : w'.heap[c]? = some o
  there : ∀ k, k ≠ c → w'.heap[k]? = w.heap[k]?
  size : w'.heap.size = w.heap.size
  os : w'.os = w.os
  tape : w'.tape = w.tape
  output : w'.output = w.output

theorem Upd.same {w : World} {c : Nat} {o : Obj} (h : w.heap[c]? = some o) : Upd w c o w := ⟨h, fun _ _ => rfl, rfl, rfl, rfl, rfl⟩
theorem Upd.trans {w w1 w2 : World} {c : Nat} {o o' : Obj} (h : Upd w c o w1) (k : Upd w1 c o' w2) : Upd w c o' w2 :=
  ⟨k.here, fun i hi => (k.there i hi).trans (h.there i hi), k.size.trans h.size, k.os.trans h.os, k.tape.trans h.tape, k.output.trans h.output⟩
theorem upd_setCell {w : World} {c : Nat} {ca : Array Value} {e : TypeId} {fz : Nat × Nat} (h : w.heap[c]? = some (.cells ca e fz)) (o : Nat) (v : Value) :
    Upd w c (.cells (ca.setIfInBounds o v) e fz) (w.setCell ⟨c, o, none⟩ v) := by
  refine ⟨?_, ?_, by simp [World.setCell], rfl, rfl, rfl⟩
  · simp [World.setCell, Array.getElem?_modify, h]
  · intro k hk
    simp [World.setCell, Array.getElem?_modify, Ne.symm hk]
theorem upd_set {w : World} {c : Nat} {o o' : Obj} (h : w.heap[c]? = some o) : Upd w c o' { w with heap := w.heap.setIfInBounds c o' } := by
  have hlt := (Array.getElem?_eq_some_iff.1 h).1
  refine ⟨?_, ?_, by simp, rfl, rfl, rfl⟩
  · simp [Array.getElem?_setIfInBounds, hlt]
  · intro k hk
    simp [Array.getElem?_setIfInBounds, Ne.symm hk]

theorem oneCell_eq (v : Value) : v.oneCell' = oneCell v := by cases v <;> rfl
theorem VRel.oneCell {ρ : Ren} {v v' : Value} (h : VRel ρ v v') : Eng.oneCell v' = Eng.oneCell v := by cases h <;> rfl
theorem VRels.all_oneCell {ρ : Ren} : ∀ {l l' : List Value}, VRels ρ l l' → l'.all Eng.oneCell = l.all Eng.oneCell
  | _, _, .nil => rfl
  | _, _, .cons h hs => by simp [h.oneCell, hs.all_oneCell]

/-- Cells are written. -/
theorem run_storeCells {c : Nat} {e : TypeId} {fz : Nat × Nat} (o : Nat) : ∀ (vs : List Value) (i : Nat) {w : World} {ca : Array Value}, w.heap[c]? = some (.cells ca e fz) →
    o + i + vs.length ≤ ca.size → vs.all oneCell = true → (∀ k, k < ca.size → ¬ (fz.1 ≤ k ∧ k < fz.2)) →
    ∃ w', (storeCells ⟨c, o, none⟩ vs i).run P w = .ok () w' ∧ Upd w c (.cells (ca.toList.take (o + i) ++ vs ++ ca.toList.drop (o + i + vs.length)).toArray e fz) w'
  | [], i, w, ca, h, hb, _, _ => ⟨w, by simp [storeCells], by simpa using Upd.same h⟩
  | v :: vs, i, w, ca, h, hb, hone, hfz => by
    simp only [List.all_cons, Bool.and_eq_true] at hone
    simp only [List.length_cons] at hb
    have hlt : o + i < ca.size := by omega
    have hset := upd_setCell h (o + i) v
    obtain ⟨w', h1, h2⟩ := run_storeCells o vs (i + 1) hset.here (by simp; omega) hone.2 (by simpa using hfz)
    refine ⟨w', ?_, ?_⟩
    · have hfr : w.frozen? ⟨c, o + i, none⟩ = false := by
        rw [frozen_of h]
        have := hfz (o + i) hlt
        simp only [Bool.and_eq_false_iff, decide_eq_false_iff_not]
        omega
      rw [storeCells, Sem.run_bind, add_eq, run_store _ _ _ _ _ (by rw [oneCell_eq]; exact hone.1), cell_of h, Array.getElem?_eq_getElem hlt]
      simp only [hfr, Bool.false_eq_true, if_false, Result.andThen_ok]
      exact h1
    · have e : (ca.toList.take (o + i) ++ (v :: vs) ++ ca.toList.drop (o + i + (v :: vs).length)) =
          ((ca.setIfInBounds (o + i) v).toList.take (o + (i + 1)) ++ vs ++ (ca.setIfInBounds (o + i) v).toList.drop (o + (i + 1) + vs.length)) := by
        rw [Array.toList_setIfInBounds]
        have h3 : (ca.toList.set (o + i) v).take (o + (i + 1)) = ca.toList.take (o + i) ++ [v] := by
          have hl : o + i < ca.toList.length := by simpa using hlt
          rw [List.take_set, show o + (i + 1) = o + i + 1 from by omega, List.take_succ_eq_append_getElem hl, List.set_append]
          have hmin : min (o + i) ca.size = o + i := by omega
          simp [hmin]
        have h4 : (ca.toList.set (o + i) v).drop (o + (i + 1) + vs.length) = ca.toList.drop (o + (i + 1) + vs.length) := by
          rw [List.drop_set_of_lt (by omega)]
        rw [h3, h4]
        simp [Nat.add_comm, Nat.add_left_comm, Nat.add_assoc]
      rw [e]
      exact hset.trans h2

section
variable {E : Env} {ρ : Ren} {s : St} {w : World}

/-- What is known of a block of cells. -/
theorem Rel.cells (h : Rel E ρ s w) {b hi : Nat} {L : Loc} (e : ρ b hi = some L) {cs : List Value} {el : TypeId} {wsz : Nat} {frz ex : Bool} (hb : s.h.get b = some (.cells cs el wsz frz ex)) :
    ∃ ca fz, w.heap[L.c]? = some (.cells ca el fz) ∧ ORel E ρ hi L (.cells cs el wsz frz ex) (.cells ca el fz) := by
  obtain ⟨o, o', h1, h2, h3⟩ := h.obj b hi L e
  rw [hb] at h1
  cases h1
  cases o' with
  | cells ca el' fz =>
    obtain rfl : el' = el := h3.1
    exact ⟨ca, fz, h2, h3⟩
  | _ => exact h3.elim

/-- What readN reads, the model's cells hold. -/
theorem readN_rel (h : Rel E ρ s w) {b o hi : Nat} {L : Loc} (e : ρ b hi = some L) {n : Nat} {l : List Value} (hr : readN s ⟨b, o, some hi⟩ n = some l) :
    ∃ ca el fz, w.heap[L.c]? = some (.cells ca el fz) ∧ o + n ≤ ca.size ∧ l.length = n ∧ VRels ρ l ((ca.toList.drop o).take n) := by
  simp only [readN] at hr
  split at hr
  case h_2 => cases hr
  rename_i cs el wsz frz ex hi' hb he
  cases he
  split at hr
  case isFalse => cases hr
  rename_i hc
  cases hr
  obtain ⟨ca, fz, h1, h2⟩ := h.cells e hb
  obtain ⟨-, h3, h4, h5, h6, h7, h8, h9, h10⟩ := h2
  have hv := h8 hc.1
  refine ⟨ca, el, fz, h1, by omega, by simp; omega, ?_⟩
  have := (hv.drop o).take n
  rw [List.drop_take, List.drop_take, List.take_take, List.take_take] at this
  rwa [Nat.min_eq_left (by omega)] at this

theorem run_loadN (h : Rel E ρ s w) {b o hi : Nat} {L : Loc} (e : ρ b hi = some L) {n : Nat} {l : List Value} (hr : readN s ⟨b, o, some hi⟩ n = some l) :
    ∃ l', (loadCells ⟨L.c, o, none⟩ n).run P w = .ok l'.toArray w ∧ VRels ρ l l' := by
  obtain ⟨ca, el, fz, h1, h2, h3, h4⟩ := readN_rel h e hr
  exact ⟨_, run_loadCells h1 h2, h4⟩

theorem run_load1 (h : Rel E ρ s w) {b o hi : Nat} {L : Loc} (e : ρ b hi = some L) {v : Value} (hr : readN s ⟨b, o, some hi⟩ 1 = some [v]) :
    ∃ v', (load ⟨L.c, o, none⟩).run P w = .ok v' w ∧ VRel ρ v v' := by
  obtain ⟨ca, el, fz, h1, h2, h3, h4⟩ := readN_rel h e hr
  obtain ⟨v', h5, h6⟩ := h4.get 0 v rfl
  refine ⟨v', run_load_at h1 ?_, h6⟩
  rw [List.getElem?_take_of_lt (by omega), List.getElem?_drop] at h5
  simpa using h5

/-- A block is replaced on both sides. -/
theorem Rel.set (h : Rel E ρ s w) {b hi : Nat} {L : Loc} (e : ρ b hi = some L) (hz : ∀ hi L q, ρ b hi = some L → L.z = some q → False) {o2 : AObj} {o2' : Obj} {w' : World} (hu : Upd w L.c o2' w')
    (hb : ∀ hi' L', ρ b hi' = some L' → ∀ o', w'.heap[L'.c]? = some o' → (L'.c = L.c → o' = o2') → (L'.c ≠ L.c → w.heap[L'.c]? = some o') → ORel E ρ hi' L' o2 o') :
    Rel E ρ (s.put b o2) w' ∧ Ev ρ s w ρ (s.put b o2) w' := by
  refine ⟨⟨h.glob, fun b' hi' hb' => h.fresh b' hi' hb', h.own, ?_, ?_⟩, ?_⟩
  · intro b' hi' L' e'
    obtain ⟨o, o', h1, h2, h3⟩ := h.obj b' hi' L' e'
    by_cases hbb : b' = b
    · subst hbb
      have hlt := h.clt E e'
      obtain ⟨o3, ho3⟩ : ∃ o3, w'.heap[L'.c]? = some o3 := by
        rw [← hu.size] at hlt
        exact ⟨_, Array.getElem?_eq_getElem hlt⟩
      refine ⟨o2, o3, by simp [St.put, HQ.get_set], ho3, hb hi' L' e' o3 ho3 (fun hc => ?_) (fun hc => ?_)⟩
      · rw [hc, hu.here] at ho3; exact (Option.some.inj ho3).symm
      · rw [← hu.there _ hc]; exact ho3
    · refine ⟨o, o', by simp [St.put, HQ.get_set, hbb, h1], ?_, h3⟩
      rw [hu.there _ (fun hc => hbb (h.own _ _ _ _ _ _ e' e hc))]
      exact h2
  · intro b' hi' L' q e' hq
    by_cases hbb : b' = b
    · subst hbb; exact (hz _ _ _ e' hq).elim
    · obtain ⟨⟨cs, e0, wz, ex, h1⟩, ca, e1, h2⟩ := h.ro b' hi' L' q e' hq
      refine ⟨⟨cs, e0, wz, ex, by simp [St.put, HQ.get_set, hbb, h1]⟩, ca, e1, ?_⟩
      rw [hu.there _ (fun hc => hbb (h.own _ _ _ _ _ _ e' e hc))]
      exact h2
  · exact ⟨fun _ _ _ h => h, fun _ _ h => h, fun b hi L h => .inr ⟨hi, L, h, rfl⟩, Nat.le_refl _, hu.os, hu.tape, hu.output, Nat.le_of_eq hu.size.symm,
      fun c hc hn => hu.there c (fun hcc => hn b hi L e hcc.symm)⟩

theorem Rel.draw (h : Rel E ρ s w) : Rel E ρ s w.drew ∧ Ev ρ s w ρ s w.drew :=
  ⟨⟨h.glob, h.fresh, h.own, h.obj, h.ro⟩, ⟨fun _ _ _ h => h, fun _ _ h => h, fun b hi L h => .inr ⟨hi, L, h, rfl⟩, Nat.le_refl _, rfl, rfl, rfl, Nat.le_refl _, fun _ _ _ => rfl⟩⟩

/-- A block is named that the model has made. -/
def Ren.with (ρ : Ren) (b hi : Nat) (L : Loc) : Ren := fun b' hi' => if b' = b ∧ hi' = hi then some L else ρ b' hi'
theorem Ren.with_same (ρ : Ren) (b hi : Nat) (L : Loc) : (ρ.with b hi L) b hi = some L := by simp [Ren.with]

/-- The model makes a block, for one that is there already but has no place yet. -/
theorem Rel.place (h : Rel E ρ s w) {b hi sz esz : Nat} {o : AObj} {o' : Obj} (hb : b < s.nx) (hn : ∀ hi, ρ b hi = none) (hg : s.h.get b = some o)
    (ho : ORel E (ρ.with b hi ⟨w.heap.size, sz, esz, none⟩) hi ⟨w.heap.size, sz, esz, none⟩ o o') :
    Rel E (ρ.with b hi ⟨w.heap.size, sz, esz, none⟩) s (w.alloc o') ∧ ρ.le (ρ.with b hi ⟨w.heap.size, sz, esz, none⟩) := by
  have le : ρ.le (ρ.with b hi ⟨w.heap.size, sz, esz, none⟩) := by
    intro b' hi' L e
    by_cases hbb : b' = b ∧ hi' = hi
    · rw [hbb.1, hn] at e; cases e
    · simp [Ren.with, hbb, e]
  refine ⟨⟨fun g v hg => (h.glob g v hg).mono le, ?_, ?_, ?_, ?_⟩, le⟩
  · intro b' hi' hb'
    have : ¬ (b' = b ∧ hi' = hi) := fun hh => by omega
    simp [Ren.with, this, h.fresh b' hi' hb']
  · intro b1 hi1 L1 b2 hi2 L2 e1 e2 hc
    simp only [Ren.with] at e1 e2
    split at e1 <;> split at e2
    · rename_i h1 h2; exact h1.1.trans h2.1.symm
    · cases e1; have := h.clt E e2; have hc' : w.heap.size = L2.c := hc; omega
    · cases e2; have := h.clt E e1; have hc' : L1.c = w.heap.size := hc; omega
    · exact h.own _ _ _ _ _ _ e1 e2 hc
  · intro b' hi' L e
    by_cases hbb : b' = b ∧ hi' = hi
    · obtain ⟨rfl, rfl⟩ := hbb
      rw [Ren.with_same] at e; cases e
      exact ⟨o, o', hg, by rw [alloc_heap, if_pos rfl], ho⟩
    · simp only [Ren.with, hbb, if_false] at e
      obtain ⟨o1, o1', h1, h2, h3⟩ := h.obj b' hi' L e
      refine ⟨o1, o1', h1, ?_, h3.mono E le⟩
      have := h.clt E e
      rw [alloc_heap, if_neg (Nat.ne_of_lt this)]; exact h2
  · intro b' hi' L q e hq
    by_cases hbb : b' = b ∧ hi' = hi
    · obtain ⟨rfl, rfl⟩ := hbb
      rw [Ren.with_same] at e; cases e; cases hq
    · simp only [Ren.with, hbb, if_false] at e
      obtain ⟨h1, ca, e1, h2⟩ := h.ro b' hi' L q e hq
      refine ⟨h1, ca, e1, ?_⟩
      rw [alloc_heap, if_neg (Nat.ne_of_lt (h.clt E e))]; exact h2

theorem ev_alloc (h : Rel E ρ s w) {hi sz esz : Nat} (o : AObj) (o' : Obj) : Ev ρ s w (ρ.with s.nx hi ⟨w.heap.size, sz, esz, none⟩) (s.alloc o) (w.alloc o') where
  le := by
    intro b' hi' L e
    by_cases hbb : b' = s.nx ∧ hi' = hi
    · rw [hbb.1, h.fresh _ _ (Nat.le_refl _)] at e; cases e
    · simp [Ren.with, hbb, e]
  stays := fun b hb hn hi' => by
    have : ¬ (b = s.nx ∧ hi' = hi) := fun hh => by omega
    simp [Ren.with, this, hn]
  range := fun b' hi' L e => by
    by_cases hbb : b' = s.nx ∧ hi' = hi
    · simp only [Ren.with, hbb, and_self, if_true] at e; cases e; exact .inl (Nat.le_refl _)
    · simp only [Ren.with, hbb, if_false] at e; exact .inr ⟨hi', L, e, rfl⟩
  nx := by simp [St.alloc]
  os := rfl
  tape := rfl
  output := rfl
  size := by simp
  keep := fun c hc _ => by rw [alloc_heap, if_neg (Nat.ne_of_lt hc)]

theorem rel_grow (h : Rel E ρ s w) (o : AObj) : Rel E ρ (s.alloc o) w :=
  ⟨h.glob, fun b hi hb => h.fresh b hi (by simp only [St.alloc] at hb; omega), h.own, fun b hi L e => by
    obtain ⟨o1, o1', h1, h2, h3⟩ := h.obj b hi L e
    refine ⟨o1, o1', ?_, h2, h3⟩
    have := h.lt E e
    simp [St.alloc, HQ.get_set, Nat.ne_of_lt this, h1], fun b hi L q e hq => by
    obtain ⟨⟨cs, e0, wz, ex, h1⟩, h2⟩ := h.ro b hi L q e hq
    refine ⟨⟨cs, e0, wz, ex, ?_⟩, h2⟩
    have := h.lt E e
    simp [St.alloc, HQ.get_set, Nat.ne_of_lt this, h1]⟩

/-- A new block, on both sides. -/
theorem Rel.alloc (h : Rel E ρ s w) {hi sz esz : Nat} {o : AObj} {o' : Obj} (ho : ORel E (ρ.with s.nx hi ⟨w.heap.size, sz, esz, none⟩) hi ⟨w.heap.size, sz, esz, none⟩ o o') :
    Rel E (ρ.with s.nx hi ⟨w.heap.size, sz, esz, none⟩) (s.alloc o) (w.alloc o') ∧ Ev ρ s w (ρ.with s.nx hi ⟨w.heap.size, sz, esz, none⟩) (s.alloc o) (w.alloc o') := by
  refine ⟨?_, ev_alloc h o o'⟩
  exact ((rel_grow h o).place (b := s.nx) (by simp [St.alloc]) (fun hi' => h.fresh _ _ (Nat.le_refl _)) (by simp [St.alloc, HQ.get_set]) ho).1

theorem ORel.row {ρ' : Ren} {c : Nat} {el : TypeId} {cs ca : List Value} (ex : Bool) (hv : VRels ρ' cs (ca.take cs.length)) (hx : ex = true → ca.length = cs.length) {fz : Nat × Nat} (hf : ∀ i, i < ca.length → ¬ (fz.1 ≤ i ∧ i < fz.2)) :
    ORel E ρ' cs.length ⟨c, ca.length, (E.size el).getD 0, none⟩ (.cells cs el cs.length false ex) (.cells ca.toArray el fz) := by
  have hl := hv.length_eq
  simp only [List.length_take] at hl
  refine ⟨rfl, Nat.le_refl _, by show cs.length ≤ ca.length; omega, by simp, rfl, Nat.le_refl _, fun _ => by simpa using hv, fun _ => hf, hx⟩

/-- A new row of cells, on both sides. -/
theorem Rel.row (h : Rel E ρ s w) (el : TypeId) {cs ca : List Value} (ex : Bool) (hv : VRels ρ cs (ca.take cs.length)) (hx : ex = true → ca.length = cs.length) (fz : Nat × Nat := (0, 0)) (hf : ∀ i, i < ca.length → ¬ (fz.1 ≤ i ∧ i < fz.2) := by simp) :
    ∃ ρ' L, Rel E ρ' (s.row el cs ex).2 (w.alloc (.cells ca.toArray el fz)) ∧ Ev ρ s w ρ' (s.row el cs ex).2 (w.alloc (.cells ca.toArray el fz)) ∧ ρ' s.nx cs.length = some L ∧ L.c = w.heap.size ∧ L.sz = ca.length ∧ L.esz = (E.size el).getD 0 := by
  have ev := ev_alloc h (hi := cs.length) (sz := ca.length) (esz := (E.size el).getD 0) (.cells cs el cs.length false ex) (.cells ca.toArray el fz)
  have := h.alloc (hi := cs.length) (sz := ca.length) (esz := (E.size el).getD 0) (o := .cells cs el cs.length false ex) (o' := .cells ca.toArray el fz)
    (ORel.row ex (hv.mono ev.le) hx hf)
  exact ⟨_, _, this.1, this.2, Ren.with_same _ _ _ _, rfl, rfl, rfl⟩

/-- Cells are written on both sides. -/
theorem writeN_rel (h : Rel E ρ s w) {b o hi : Nat} {L : Loc} (e : ρ b hi = some L) {vs vs' : List Value} (hv : VRels ρ vs vs') {s' : St} (hw : writeN s ⟨b, o, some hi⟩ vs = some s') :
    ∃ w', (storeCells ⟨L.c, o, none⟩ vs').run P w = .ok () w' ∧ Rel E ρ s' w' ∧ Ev ρ s w ρ s' w' := by
  simp only [writeN] at hw
  split at hw
  case h_2 => cases hw
  rename_i cs el wsz ex hi' hb he
  cases he
  split at hw
  case isFalse => cases hw
  rename_i hc
  cases hw
  obtain ⟨hc1, hc2, hc3⟩ := hc
  obtain ⟨ca, fz, h1, h2⟩ := h.cells e hb
  obtain ⟨-, h3, h4, h5, h6, h7, h8, h9, h10⟩ := h2
  have hlen := hv.length_eq
  have hvv := h8 (by omega)
  obtain ⟨w', hr, hu⟩ := run_storeCells (P := P) o vs' 0 h1 (by omega) (by rw [hv.all_oneCell]; exact hc3) (fun k hk => h9 rfl k (by omega))
  refine ⟨w', hr, ?_⟩
  refine h.set e (h.zfree E hb (by intro _ _ _ _ hh; cases hh)) hu ?_
  intro hi2 L2 e2 o' ho' hsame hother
  obtain ⟨ca2, fz2, h1', h2'⟩ := h.cells e2 hb
  obtain ⟨-, k3, k4, k5, k6, k7, k8, k9, k10⟩ := h2'
  by_cases hcc : L2.c = L.c
  · obtain rfl := hsame hcc
    rw [hcc, h1] at h1'
    cases h1'
    have hsz : (ca.toList.take (o + 0) ++ vs' ++ ca.toList.drop (o + 0 + vs'.length)).length = ca.size := by
      simp only [List.length_append, List.length_take, List.length_drop, Array.length_toList]; omega
    refine ⟨rfl, ?_, k4, ?_, k6, ?_, ?_, ?_, ?_⟩
    · simp only [List.length_append, List.length_take, List.length_drop]; omega
    · rw [← k5]; simpa using hsz
    · simp only [List.length_append, List.length_take, List.length_drop]; omega
    · intro hle
      have hi2eq : hi2 = hi := by omega
      subst hi2eq
      have a1 : VRels ρ (cs.take o) (ca.toList.take o) := by
        have := hvv.take o
        rwa [List.take_take, List.take_take, Nat.min_eq_left (by omega)] at this
      have a2 : VRels ρ (cs.drop (o + vs.length)) ((ca.toList.take hi2).drop (o + vs'.length)) := by
        have := hvv.drop (o + vs.length)
        rw [hlen] at this ⊢
        rwa [List.take_of_length_le (by omega)] at this
      have h11 : (cs.take o ++ vs ++ cs.drop (o + vs.length)).take hi2 = cs.take o ++ vs ++ cs.drop (o + vs.length) := by
        apply List.take_of_length_le
        simp only [List.length_append, List.length_take, List.length_drop]; omega
      have h12 : (ca.toList.take (o + 0) ++ vs' ++ ca.toList.drop (o + 0 + vs'.length)).take hi2 = ca.toList.take o ++ vs' ++ (ca.toList.take hi2).drop (o + vs'.length) := by
        have hl : (ca.toList.take o ++ vs').length = o + vs'.length := by simp only [List.length_append, List.length_take, Array.length_toList]; omega
        rw [Nat.add_zero, List.take_append, hl, List.take_of_length_le (by omega), List.drop_take]
      rw [h11]
      simp only [h12]
      exact (a1.append hv).append a2
    · intro _; exact k9 rfl
    · intro hx
      have := k10 hx
      simp only [List.length_append, List.length_take, List.length_drop]; omega
  · have ho2 := hother hcc
    rw [h1'] at ho2
    cases ho2
    refine ⟨rfl, ?_, k4, k5, k6, ?_, ?_, fun _ => k9 rfl, ?_⟩
    · simp only [List.length_append, List.length_take, List.length_drop]; omega
    · simp only [List.length_append, List.length_take, List.length_drop]; omega
    · intro hle
      exfalso
      have hi2eq : hi2 = hi := by omega
      subst hi2eq
      rw [e] at e2; cases e2; exact hcc rfl
    · intro hx
      have := k10 hx
      simp only [List.length_append, List.length_take, List.length_drop]; omega
/-- A block is replaced, and a place of it is named. -/
theorem Rel.grow (h : Rel E ρ s w) {b : Nat} (hb : b < s.nx) (hlive : ∃ hi L, ρ b hi = some L) {o2 : AObj} {hiN : Nat} {LN : Loc} {w' : World} (hfresh : ρ b hiN = none) (hz : ∀ hi L q, ρ b hi = some L → L.z = some q → False) (hLN : LN.z = none)
    (hc : LN.c = w.heap.size ∨ ∃ hi L, ρ b hi = some L ∧ LN.c = L.c) (hsz : w.heap.size ≤ w'.heap.size) (hos : w'.os = w.os) (htape : w'.tape = w.tape) (hout : w'.output = w.output)
    (hkeep : ∀ c, c < w.heap.size → (∀ hi L, ρ b hi = some L → L.c ≠ c) → w'.heap[c]? = w.heap[c]?)
    (hall : ∀ hi' L', (ρ.with b hiN LN) b hi' = some L' → ∃ o', w'.heap[L'.c]? = some o' ∧ ORel E (ρ.with b hiN LN) hi' L' o2 o') :
    Rel E (ρ.with b hiN LN) (s.put b o2) w' ∧ Ev ρ s w (ρ.with b hiN LN) (s.put b o2) w' := by
  have le : ρ.le (ρ.with b hiN LN) := by
    intro b' hi' L e
    by_cases hbb : b' = b ∧ hi' = hiN
    · rw [hbb.1, hbb.2, hfresh] at e; cases e
    · simp [Ren.with, hbb, e]
  have hother : ∀ b' hi' L', b' ≠ b → (ρ.with b hiN LN) b' hi' = some L' → ρ b' hi' = some L' := by
    intro b' hi' L' hne e
    have : ¬ (b' = b ∧ hi' = hiN) := fun hh => hne hh.1
    simpa [Ren.with, this] using e
  have hcb : ∀ hi' L', (ρ.with b hiN LN) b hi' = some L' → L'.c = w.heap.size ∨ ∃ hi L, ρ b hi = some L ∧ L'.c = L.c := by
    intro hi' L' e
    by_cases hh : hi' = hiN
    · subst hh; rw [Ren.with_same] at e; cases e; exact hc
    · simp only [Ren.with, hh, and_false, if_false] at e
      exact .inr ⟨hi', L', e, rfl⟩
  refine ⟨⟨fun g v hg => (h.glob g v hg).mono le, ?_, ?_, ?_, ?_⟩, ?_⟩
  · intro b' hi' hb'
    have : b' ≠ b := fun hh => by simp only [St.put] at hb'; omega
    have h2 : ¬ (b' = b ∧ hi' = hiN) := fun hh => this hh.1
    simp only [Ren.with, h2, if_false]
    exact h.fresh b' hi' hb'
  · intro b1 hi1 L1 b2 hi2 L2 e1 e2 hcc
    by_cases h1 : b1 = b <;> by_cases h2 : b2 = b
    · rw [h1, h2]
    · subst h1
      have e2' := hother _ _ _ h2 e2
      rcases hcb _ _ e1 with h3 | ⟨hi, L, h3, h4⟩
      · have := h.clt E e2'; omega
      · exact h.own _ _ _ _ _ _ h3 e2' (h4.symm.trans hcc)
    · subst h2
      have e1' := hother _ _ _ h1 e1
      rcases hcb _ _ e2 with h3 | ⟨hi, L, h3, h4⟩
      · have := h.clt E e1'; omega
      · exact h.own _ _ _ _ _ _ e1' h3 (hcc.trans h4)
    · exact h.own _ _ _ _ _ _ (hother _ _ _ h1 e1) (hother _ _ _ h2 e2) hcc
  · intro b' hi' L' e
    by_cases hbb : b' = b
    · subst hbb
      obtain ⟨o', h1, h2⟩ := hall hi' L' e
      exact ⟨o2, o', by simp [St.put, HQ.get_set], h1, h2⟩
    · have e' := hother _ _ _ hbb e
      obtain ⟨o1, o1', h1, h2, h3⟩ := h.obj b' hi' L' e'
      refine ⟨o1, o1', by simp [St.put, HQ.get_set, hbb, h1], ?_, h3.mono E le⟩
      rw [hkeep _ (h.clt E e') (fun hi L e2 hcc => hbb (h.own _ _ _ _ _ _ e' e2 hcc.symm))]
      exact h2
  · intro b' hi' L' q e hq
    by_cases hbb : b' = b
    · subst hbb
      by_cases hh : hi' = hiN
      · subst hh; rw [Ren.with_same] at e; cases e; rw [hLN] at hq; cases hq
      · simp only [Ren.with, hh, and_false, if_false] at e
        exact (hz _ _ _ e hq).elim
    · have e' := hother _ _ _ hbb e
      obtain ⟨⟨cs, e0, wz, ex, h1⟩, ca, e1, h2⟩ := h.ro b' hi' L' q e' hq
      refine ⟨⟨cs, e0, wz, ex, by simp [St.put, HQ.get_set, hbb, h1]⟩, ca, e1, ?_⟩
      rw [hkeep _ (h.clt E e') (fun hi L e2 hcc => hbb (h.own _ _ _ _ _ _ e' e2 hcc.symm))]
      exact h2
  · refine ⟨le, ?_, ?_, Nat.le_refl _, hos, htape, hout, hsz, ?_⟩
    · intro b' hb' hn hi'
      by_cases hh : b' = b ∧ hi' = hiN
      · exfalso
        rcases hc with h3 | ⟨hi, L, h3, h4⟩
        · obtain ⟨hi, L, h5⟩ := hlive; rw [← hh.1, hn] at h5; cases h5
        · rw [← hh.1, hn] at h3; cases h3
      · simp [Ren.with, hh, hn]
    · intro b' hi' L e
      by_cases hbb : b' = b
      · subst hbb
        rcases hcb _ _ e with h3 | ⟨hi, L2, h3, h4⟩
        · exact .inl (Nat.le_of_eq h3.symm)
        · exact .inr ⟨hi, L2, h3, h4.symm⟩
      · exact .inr ⟨hi', L, hother _ _ _ hbb e, rfl⟩
    · intro c hlt hn
      exact hkeep c hlt (fun hi L e => hn b hi L e)

end
end Go.Eng

/- The abstract evaluator: its reckoning with numbers and strings is the model's. -/
namespace Go.Eng
variable {P : Program} {w : World}

theorem eqI_eq (a b : Int) : eqI a b = (a == b) := by
  cases a <;> cases b <;> simp only [eqI]
  · rename_i m n
    rw [Bool.eq_iff_iff, beq_iff_eq, Nat.beq_eq]; simp; omega
  · simp [bne_iff_ne, beq_eq_false_iff_ne]
  · simp
  · rename_i m n
    rw [Bool.eq_iff_iff, beq_iff_eq, Nat.beq_eq]; simp [Int.negSucc_inj]
theorem ltI_eq (a b : Int) : ltI a b = decide (a < b) := by
  cases a <;> cases b <;> simp only [ltI]
  · rename_i m n
    rw [Bool.eq_iff_iff, decide_eq_true_iff, Nat.blt_eq]; simp
  · rename_i m n
    have : ¬ ((m : Int) < Int.negSucc n) := by omega
    simp only [Int.ofNat_eq_natCast, this, decide_false]
  · rename_i m n
    have : (Int.negSucc m < (n : Int)) := by omega
    simp only [Int.ofNat_eq_natCast, this, decide_true]
  · rename_i m n
    rw [Bool.eq_iff_iff, decide_eq_true_iff, Nat.blt_eq]; omega
theorem modI_eq (m : Nat) (hm : 0 < m) (n : Int) : (modI m n : Int) = n % m := by
  cases n with
  | ofNat a => simp [modI]
  | negSucc a =>
    simp only [modI]
    have h1 : a % m < m := Nat.mod_lt _ hm
    have := Int.negSucc_emod a (b := (m : Int)) (by omega)
    rw [this]
    have : (m - 1 - a % m : Nat) = (m : Int) - 1 - (a % m : Nat) := by omega
    rw [this]; simp
theorem modI_lt (m : Nat) (hm : 0 < m) (n : Int) : modI m n < m := by
  have := modI_eq m hm n
  have h2 := Int.emod_lt_of_pos n (show (0 : Int) < m by omega)
  omega
theorem sgnI_eq (h m n : Nat) (hn : n < m) : sgnI h m n = if (h : Int) ≤ n then (n : Int) - m else n := by
  unfold sgnI
  cases hb : Nat.blt n h with
  | true =>
    rw [Nat.blt_eq] at hb
    have : ¬ ((h : Int) ≤ n) := by omega
    simp [this]
  | false =>
    have h1 : ¬ n < h := fun hh => by rw [← Nat.blt_eq] at hh; rw [hh] at hb; cases hb
    have : ((h : Int) ≤ n) := by omega
    simp only [cond, this, if_true]
    omega
theorem wrapI_eq (k : IntKind) (n : Int) : wrapI k n = k.wrap n := by
  cases k <;> simp only [wrapI, IntKind.wrap, IntKind.bits, IntKind.signed]
  case i8 =>
    rw [sgnI_eq _ _ _ (modI_lt _ (by decide) n), modI_eq _ (by decide)]
    by_cases h : (128 : Int) ≤ n % 256 <;> simp [h]
  case i16 =>
    rw [sgnI_eq _ _ _ (modI_lt _ (by decide) n), modI_eq _ (by decide)]
    by_cases h : (32768 : Int) ≤ n % 65536 <;> simp [h]
  case i32 =>
    rw [sgnI_eq _ _ _ (modI_lt _ (by decide) n), modI_eq _ (by decide)]
    by_cases h : (2147483648 : Int) ≤ n % 4294967296 <;> simp [h]
  case i64 =>
    rw [sgnI_eq _ _ _ (modI_lt _ (by decide) n), modI_eq _ (by decide)]
    by_cases h : (9223372036854775808 : Int) ≤ n % 18446744073709551616 <;> simp [h]
  case u8 =>
    have := modI_eq 256 (by decide) n
    simp only [Int.ofNat_eq_natCast, this]; simp
  case u16 =>
    have := modI_eq 65536 (by decide) n
    simp only [Int.ofNat_eq_natCast, this]; simp
  case u32 =>
    have := modI_eq 4294967296 (by decide) n
    simp only [Int.ofNat_eq_natCast, this]; simp
  case u64 =>
    have := modI_eq 18446744073709551616 (by decide) n
    simp only [Int.ofNat_eq_natCast, this]; simp

theorem modK_eq (k : IntKind) : modK k = 2 ^ k.bits := by cases k <;> rfl
theorem modK_pos (k : IntKind) : 0 < modK k := by cases k <;> decide
theorem toNat_ofInt (k : IntKind) (x : Int) : (BitVec.ofInt k.bits x).toNat = modI (modK k) x := by
  have h := modI_eq (modK k) (modK_pos k) x
  rw [BitVec.toNat_ofInt]
  have h2 : ((2 ^ k.bits : Nat) : Int) = (modK k : Int) := by rw [modK_eq]
  rw [h2]
  omega

theorem now_run {α : Type} {x : Sem α} {a : α} (h : now x = some a) : x.run P w = .ok a w := by
  cases x <;> simp only [now] at h <;> first | (cases h; rfl) | cases h

theorem le_not_lt (a b : Int) : decide (a ≤ b) = !decide (b < a) := by
  rw [Bool.eq_iff_iff]; simp

theorem numOp_run {op : BinOp} {j k : IntKind} {a b : Int} {v : Value} (t : TypeId) (h : numOp op j a k b = some v) :
    (binOp op t (.int j a) (.int k b)).run P w = .ok v w ∧ flat v = true := by
  have key : j = k → numOp op j a j b = some v → (binOp op t (.int j a) (.int j b)).run P w = .ok v w ∧ flat v = true := by
    rintro rfl h
    cases op <;> simp only [numOp, ne_eq, not_true_eq_false, if_false] at h
    case shl =>
      cases b with
      | ofNat n =>
        cases h
        refine ⟨?_, rfl⟩
        have hn : ¬ ((n : Int) < 0) := by omega
        simp [binOp, Op.shift, hn, wrapI_eq, Int.natCast_pow, Int.ofNat_eq_natCast]
      | negSucc n => cases h
    case shr =>
      cases b with
      | negSucc n => cases a <;> cases h
      | ofNat n =>
        have hn : ¬ ((n : Int) < 0) := by omega
        cases a with
        | ofNat m =>
          cases h
          refine ⟨?_, rfl⟩
          have e : (Int.ofNat m).fdiv (2 ^ min n j.bits : Int) = Int.ofNat (m / 2 ^ min n j.bits) := by
            have : ((2 ^ min n j.bits : Nat) : Int) = (2 : Int) ^ min n j.bits := by simp [Int.natCast_pow]
            rw [← this, Int.fdiv_eq_ediv_of_nonneg _ (Int.natCast_nonneg _)]
            simp
          simp only [Int.ofNat_eq_natCast] at e
          simp only [binOp, Op.shift, Int.ofNat_eq_natCast, hn, if_false, Int.toNat_natCast, Sem.run_pure, e]
        | negSucc m =>
          cases h
          refine ⟨?_, rfl⟩
          simp [binOp, Op.shift, Int.ofNat_eq_natCast, hn]
    case add => cases h; exact ⟨by simp [binOp, Op.intArith, wrapI_eq], rfl⟩
    case sub => cases h; exact ⟨by simp [binOp, Op.intArith, wrapI_eq], rfl⟩
    case mul => cases h; exact ⟨by simp [binOp, Op.intArith, wrapI_eq], rfl⟩
    case quo =>
      rw [eqI_eq] at h
      by_cases hb : b = 0
      · simp [hb] at h
      · have : (b == 0) = false := by simpa using hb
        rw [this] at h; cases h
        exact ⟨by simp [binOp, Op.intDiv, hb, wrapI_eq], rfl⟩
    case rem =>
      rw [eqI_eq] at h
      by_cases hb : b = 0
      · simp [hb] at h
      · have : (b == 0) = false := by simpa using hb
        rw [this] at h; cases h
        exact ⟨by simp [binOp, Op.intDiv, hb], rfl⟩
    case and => cases h; exact ⟨by simp only [binOp, Op.intBits, ne_eq, not_true_eq_false, if_false, Sem.run_pure, BitVec.toNat_and, toNat_ofInt, wrapI_eq]; rfl, rfl⟩
    case or => cases h; exact ⟨by simp only [binOp, Op.intBits, ne_eq, not_true_eq_false, if_false, Sem.run_pure, BitVec.toNat_or, toNat_ofInt, wrapI_eq]; rfl, rfl⟩
    case xor => cases h; exact ⟨by simp only [binOp, Op.intBits, ne_eq, not_true_eq_false, if_false, Sem.run_pure, BitVec.toNat_xor, toNat_ofInt, wrapI_eq]; rfl, rfl⟩
    case andNot => cases h
    case eql => cases h; exact ⟨by simp [binOp, Op.intCmp, eqI_eq], rfl⟩
    case neq => cases h; exact ⟨by simp [binOp, Op.intCmp, eqI_eq, bne], rfl⟩
    case lss => cases h; exact ⟨by simp [binOp, Op.intCmp, ltI_eq], rfl⟩
    case leq => cases h; exact ⟨by simp [binOp, Op.intCmp, ltI_eq, le_not_lt], rfl⟩
    case gtr => cases h; exact ⟨by simp [binOp, Op.intCmp, ltI_eq], rfl⟩
    case geq => cases h; exact ⟨by simp [binOp, Op.intCmp, ltI_eq, le_not_lt], rfl⟩
  by_cases hjk : j = k
  · subst hjk; exact key rfl h
  · cases op <;> simp only [numOp, ne_eq, hjk, not_false_eq_true, if_true] at h <;> first | (cases h; done) | skip
    case shl =>
      cases b with
      | ofNat n =>
        cases h
        refine ⟨?_, rfl⟩
        have hn : ¬ ((n : Int) < 0) := by omega
        simp [binOp, Op.shift, hn, wrapI_eq, Int.natCast_pow, Int.ofNat_eq_natCast]
      | negSucc n => cases h
    case shr =>
      cases b with
      | negSucc n => cases a <;> cases h
      | ofNat n =>
        have hn : ¬ ((n : Int) < 0) := by omega
        cases a with
        | ofNat m =>
          cases h
          refine ⟨?_, rfl⟩
          have e : (Int.ofNat m).fdiv (2 ^ min n j.bits : Int) = Int.ofNat (m / 2 ^ min n j.bits) := by
            have : ((2 ^ min n j.bits : Nat) : Int) = (2 : Int) ^ min n j.bits := by simp [Int.natCast_pow]
            rw [← this, Int.fdiv_eq_ediv_of_nonneg _ (Int.natCast_nonneg _)]
            simp
          simp only [Int.ofNat_eq_natCast] at e
          simp only [binOp, Op.shift, Int.ofNat_eq_natCast, hn, if_false, Int.toNat_natCast, Sem.run_pure, e]
        | negSucc m =>
          cases h
          refine ⟨?_, rfl⟩
          simp [binOp, Op.shift, Int.ofNat_eq_natCast, hn]

theorem eqB_eq : ∀ a b : List UInt8, eqB a b = (a == b)
  | [], [] => rfl
  | [], _ :: _ => rfl
  | _ :: _, [] => rfl
  | a :: as, b :: bs => by
    simp only [eqB, eqB_eq as bs, List.cons_beq_cons]
    congr 1
    rw [Bool.eq_iff_iff, Nat.beq_eq, beq_iff_eq, UInt8.toNat_inj]
theorem ltB_eq : ∀ a b : List UInt8, ltB a b = Op.bytesLess a b
  | [], [] => rfl
  | [], _ :: _ => rfl
  | _ :: _, [] => rfl
  | a :: as, b :: bs => by
    simp only [ltB, Op.bytesLess, ltB_eq as bs]
    have h1 : Nat.blt a.toNat b.toNat = decide (a < b) := by rw [Bool.eq_iff_iff, Nat.blt_eq, decide_eq_true_iff, UInt8.lt_iff_toNat_lt]
    have h2 : Nat.beq a.toNat b.toNat = (a == b) := by rw [Bool.eq_iff_iff, Nat.beq_eq, beq_iff_eq, UInt8.toNat_inj]
    rw [h1, h2]
theorem bytes_append (x y : ByteArray) : (⟨⟨x.data.toList ++ y.data.toList⟩⟩ : ByteArray) = x ++ y := by
  apply ByteArray.ext
  rw [ByteArray.data_append]
  apply Array.ext'
  simp
theorem bytes_extract (b : ByteArray) (l h : Nat) : (⟨⟨(b.data.toList.drop l).take (h - l)⟩⟩ : ByteArray) = b.extract l h := by
  apply ByteArray.ext
  rw [ByteArray.data_extract]
  apply Array.ext'
  simp [List.extract_eq_take_drop]

theorem strOp_run {op : BinOp} {a b : ByteArray} {v : Value} (t : TypeId) (h : strOp op a b = some v) :
    (binOp op t (.string a) (.string b)).run P w = .ok v w ∧ flat v = true := by
  have e1 : a.toList = a.data.toList := ByteArray.toList_eq a
  have e2 : b.toList = b.data.toList := ByteArray.toList_eq b
  cases op <;> simp only [strOp] at h
  case add =>
    split at h
    · rename_i hlt
      cases h
      refine ⟨?_, rfl⟩
      have hle : ¬ (((a.size + b.size : Nat) : Int) > IntKind.i64.max) := by
        have h1 : a.size = a.data.toList.length := by simp
        have h2 : b.size = b.data.toList.length := by simp
        have h3 : IntKind.i64.max = 9223372036854775807 := by decide
        omega
      simp only [binOp, Op.stringOp, hle, if_false, Sem.run_pure, bytes_append]
    · cases h
  case eql => cases h; exact ⟨by simp only [binOp, Op.stringOp, Sem.run_pure, e1, e2, eqB_eq], rfl⟩
  case neq => cases h; exact ⟨by simp only [binOp, Op.stringOp, Sem.run_pure, e1, e2, eqB_eq], rfl⟩
  case lss => cases h; exact ⟨by simp only [binOp, Op.stringOp, Sem.run_pure, e1, e2, eqB_eq, ltB_eq], rfl⟩
  case leq => cases h; exact ⟨by simp only [binOp, Op.stringOp, Sem.run_pure, e1, e2, eqB_eq, ltB_eq], rfl⟩
  case gtr => cases h; exact ⟨by simp only [binOp, Op.stringOp, Sem.run_pure, e1, e2, eqB_eq, ltB_eq], rfl⟩
  case geq => cases h; exact ⟨by simp only [binOp, Op.stringOp, Sem.run_pure, e1, e2, eqB_eq, ltB_eq], rfl⟩
  all_goals cases h

theorem unV_run {op : UnOp} {x v : Value} (h : unV op x = some v) : (Op.unary op x).run P w = .ok v w ∧ flat v = true := by
  unfold unV at h
  split at h
  · cases h; exact ⟨by simp [Op.unary, Op.intArith, wrapI_eq], rfl⟩
  · rename_i k n
    simp only [numOp, ne_eq, not_true_eq_false, if_false] at h
    cases h
    exact ⟨by simp only [Op.unary, Op.intBits, Sem.run_pure, BitVec.toNat_xor, toNat_ofInt, wrapI_eq]; rfl, rfl⟩
  · cases h; exact ⟨by simp [Op.unary], rfl⟩
  · cases h
end Go.Eng

/- The abstract evaluator: operations that look only. -/
namespace Go.Eng

/-- The tables are the program's. -/
structure Env.Ok (E : Env) (P : Program) : Prop where
  tt : ∀ t i, E.tt.get t = some i → P.info? t = some i
  ft : ∀ f fn, E.ft.get f = some fn → P.funcs[f]? = some fn
  eqok : ∀ t, E.eqok t = true → P.stoodInHeld t = false ∧ P.eqGuardType P.depth t = false
  lies : ∀ e c o u, E.lies e c o u = true → liesAt P P.depth e (c / P.cellsOf e) o u 1 = true
  ext : ∀ f args s v s', E.ext f args s = some (v, s') → ∀ fn, P.funcs[f]? = some fn → fn.body = none → ∀ ρ w args', Rel E ρ s w → VRels ρ args args' →
    ∃ ρ' w' v', (callFunc f args'.toArray).run P w = .ok (.value v') w' ∧ Rel E ρ' s' w' ∧ Ev ρ s w ρ' s' w' ∧ VRel ρ' v v'

/-- The value of an operand. -/
def cev (tmps : Array Value) : Operand → Value
  | .tmp t => tmps.getD t undef
  | .const v => v
  | .global g => .pointer (some ⟨g, 0, none⟩)
  | .func f => .func (.func f) #[] #[]

def VOk (P : Program) (E : Env) (ρ : Ren) (s : St) (w : World) (x : Sem Value) (v : Value) (s' : St) : Prop :=
  ∃ ρ' w' v', x.run P w = .ok v' w' ∧ Rel E ρ' s' w' ∧ Ev ρ s w ρ' s' w' ∧ VRel ρ' v v'
def SOk (P : Program) (E : Env) (ρ : Ren) (s : St) (w : World) (x : Sem Unit) (s' : St) : Prop :=
  ∃ ρ' w', x.run P w = .ok () w' ∧ Rel E ρ' s' w' ∧ Ev ρ s w ρ' s' w'

section
variable {P : Program} {E : Env} {ρ : Ren} {s : St} {w : World}

theorem VOk.here (h : Rel E ρ s w) {x : Sem Value} {v v' : Value} (hr : x.run P w = .ok v' w) (hv : VRel ρ v v') : VOk P E ρ s w x v s := ⟨ρ, w, v', hr, h, Ev.refl _ _ _, hv⟩
theorem VOk.flat (h : Rel E ρ s w) {x : Sem Value} {v : Value} (hr : x.run P w = .ok v w ∧ flat v = true) : VOk P E ρ s w x v s := VOk.here h hr.1 (VRel.of_flat ρ v hr.2)

theorem VRel.cells' {v v' : Value} (h : VRel ρ v v') : VRels ρ v.cells.toList v'.cells.toList := by
  cases h
  case agg h => exact h
  all_goals exact .cons (by constructor <;> assumption) .nil

theorem info_of (ok : E.Ok P) {t : TypeId} {i : TypeInfo} (h : E.tt.get t = some i) : (typeInfo t).run P w = .ok i w := by
  simp [typeInfo, ok.tt t i h]
theorem under_eq (ok : E.Ok P) {t : TypeId} {d : TypeDesc} (h : E.under t = some d) : P.underlying t = some d := by
  unfold Env.under at h
  unfold Program.underlying
  split at h
  · rename_i n u _ _ _ _ _ _ _ _ _ ht
    rw [ok.tt _ _ ht]
    cases hu : E.tt.get u with
    | none => rw [hu] at h; cases h
    | some j => rw [hu] at h; simp only [ok.tt _ _ hu]; exact h
  · rename_i i hne ht
    rw [ok.tt _ _ ht]
    cases h
    split
    · rename_i n u a b c d e f g h i' hh
      cases hh
      exact absurd rfl (hne _ _ _ _ _ _ _ _ _ _ _)
    · rename_i hh; cases hh; rfl
    · rename_i hh; cases hh
  · cases h
theorem under_of (ok : E.Ok P) {t : TypeId} {d : TypeDesc} (h : E.under t = some d) : (underlying t).run P w = .ok d w := run_underlying (under_eq ok h) w
theorem size_eq (ok : E.Ok P) {t : TypeId} {n : Nat} (h : E.size t = some n) : (sizeOf t).run P w = .ok n w := by
  unfold Env.size at h
  cases ht : E.tt.get t with
  | none => rw [ht] at h; cases h
  | some i => rw [ht] at h; cases h; simp [sizeOf, info_of ok ht]
theorem isAgg_of (ok : E.Ok P) {t : TypeId} {b : Bool} (h : E.isAgg t = some b) : (isAgg t).run P w = .ok b w := by
  unfold Env.isAgg at h
  cases ht : E.under t with
  | none => rw [ht] at h; cases h
  | some d =>
    rw [ht] at h
    simp only [isAgg, Sem.run_bind, under_of ok ht, Result.andThen_ok]
    cases d <;> cases h <;> rfl
theorem zero_inv {t : TypeId} {v : Value} (h : E.zero t = some v) : ∃ i, E.tt.get t = some i ∧ i.zero = some v ∧ flat v = true ∧ v.cells.size = i.size := by
  unfold Env.zero at h
  split at h
  · rename_i i ht
    split at h
    · rename_i z hz
      split at h
      · rename_i hc
        cases h
        simp only [Bool.and_eq_true, Nat.beq_eq] at hc
        exact ⟨i, ht, hz, hc.1, hc.2⟩
      · cases h
    · cases h
  · cases h
theorem zero_of (ok : E.Ok P) {t : TypeId} {v : Value} (h : E.zero t = some v) : (zeroValue t).run P w = .ok v w ∧ flat v = true := by
  obtain ⟨i, h1, h2, h3, -⟩ := zero_inv h
  exact ⟨by simp [zeroValue, info_of ok h1, h2], h3⟩
theorem zero_size {t : TypeId} {v : Value} {n : Nat} (h : E.zero t = some v) (hn : E.size t = some n) : v.cells.size = n := by
  obtain ⟨i, h1, h2, h3, h4⟩ := zero_inv h
  rw [Env.size, h1] at hn
  cases hn; exact h4
theorem zero_rel {t : TypeId} {v : Value} (h : E.zero t = some v) : VRel ρ v v := VRel.of_flat ρ v (zero_inv h).choose_spec.2.2.1
theorem zero_cells {t : TypeId} {v : Value} (h : E.zero t = some v) : VRels ρ v.cells.toList v.cells.toList := (zero_rel h).cells'

/-! ### loads, stores, parts -/
theorem loadV_ok (ok : E.Ok P) (h : Rel E ρ s w) {b o hi : Nat} {L : Loc} (e : ρ b hi = some L) {t : TypeId} {v : Value} (hv : loadV E s t ⟨b, o, some hi⟩ = some v) :
    ∃ v', (loadVar t ⟨L.c, o, none⟩).run P w = .ok v' w ∧ VRel ρ v v' := by
  unfold loadV at hv
  split at hv
  · rename_i n ha hn
    cases hl : readN s ⟨b, o, some hi⟩ n with
    | none => rw [hl] at hv; cases hv
    | some l =>
      rw [hl] at hv; cases hv
      obtain ⟨l', hr, hv⟩ := run_loadN (P := P) h e hl
      exact ⟨.agg l'.toArray, by simp [loadVar, isAgg_of ok ha, size_eq ok hn, hr], .agg (by simpa using hv)⟩
  · rename_i ha
    split at hv
    · rename_i v0 hl
      cases hv
      obtain ⟨v', hr, hv⟩ := run_load1 (P := P) h e hl
      exact ⟨v', by simp only [loadVar, Sem.run_bind, isAgg_of ok ha, Result.andThen_ok, Bool.false_eq_true, if_false]; exact hr, hv⟩
    · cases hv
  · cases hv

theorem storeV_ok (ok : E.Ok P) (h : Rel E ρ s w) {b o hi : Nat} {L : Loc} (e : ρ b hi = some L) {t : TypeId} {v v' : Value} (hv : VRel ρ v v') {s' : St} (hs : storeV E s t ⟨b, o, some hi⟩ v = some s') :
    ∃ w', (storeVar t ⟨L.c, o, none⟩ v').run P w = .ok () w' ∧ Rel E ρ s' w' ∧ Ev ρ s w ρ s' w' := by
  unfold storeV at hs
  split at hs
  · rename_i n hn
    split at hs
    · rename_i hc
      obtain ⟨w', h1, h2, h3⟩ := writeN_rel (P := P) h e hv.cells' hs
      refine ⟨w', ?_, h2, h3⟩
      have hsz : v'.cells.size = n := by
        have := hv.cells'.length_eq
        simp only [Array.length_toList] at this
        rw [← this]; exact hc
      simp [storeVar, size_eq ok hn, hsz, h1]
    · cases hs
  · cases hs

theorem partV_ok (ok : E.Ok P) {t : TypeId} {cs cs' : List Value} (hc : VRels ρ cs cs') {off : Nat} {v : Value} (hv : partV E t cs off = some v) :
    ∃ v', (part t cs'.toArray off).run P w = .ok v' w ∧ VRel ρ v v' := by
  unfold partV at hv
  split at hv
  · rename_i n ha hn
    cases hv
    refine ⟨_, by simp only [part, Sem.run_bind, isAgg_of ok ha, Result.andThen_ok, if_true, size_eq ok hn, Sem.run_pure]; rfl, .agg ?_⟩
    have := (hc.drop off).take n
    simpa [List.extract_eq_take_drop] using this
  · rename_i ha
    obtain ⟨v', h1, h2⟩ := hc.get off v hv
    refine ⟨v', ?_, h2⟩
    simp only [part, Sem.run_bind, isAgg_of ok ha, Result.andThen_ok, Bool.false_eq_true, if_false, List.getElem?_toArray, h1]; rfl
  · cases hv

/-! ### '==' -/
set_option maxHeartbeats 4000000 in
theorem aeqIn_ok (ok : E.Ok P) (h : Rel E ρ s w) : ∀ (d : Nat) (t : TypeId) {x y x' y' : Value} {r : Bool}, aeqIn E d t x y = some r → VRel ρ x x' → VRel ρ y y' → (Op.equalIn d t x' y').run P w = .ok r w
  | 0, _, _, _, _, _, _, h, _, _ => by simp [aeqIn] at h
  | d + 1, t, x, y, x', y', r, hr, hx, hy => by
    unfold aeqIn at hr
    split at hr
    case h_1 => rename_i ht; cases hr; cases hx; cases hy; simp [Op.equalIn, under_of ok ht]
    case h_2 =>
      rename_i ht
      cases hx; cases hy
      split at hr
      · cases hr; rename_i hk; subst hk; simp [Op.equalIn, under_of ok ht, eqI_eq]
      · cases hr
    case h_3 => rename_i ht; cases hr; cases hx; cases hy; rw [run_equalIn_string w _ _ _ _ (under_eq ok ht), ByteArray.toList_eq, ByteArray.toList_eq, eqB_eq]
    case h_4 => rename_i ht; cases hr; cases hx; cases hy <;> simp [Op.equalIn, under_of ok ht]
    case h_5 => rename_i ht; cases hr; cases hx; cases hy; simp [Op.equalIn, under_of ok ht]
    case h_6 =>
      rename_i el a b ht
      split at hr
      · rename_i hc
        obtain ⟨h1, h2, h3⟩ := hc
        cases hr
        cases hx; cases hy
        rename_i b1 o1 hi1 L1 e1 b2 o2 hi2 L2 e2
        obtain rfl : b1 = b2 := h1
        obtain rfl : hi1 = hi2 := by simpa using h2
        rw [e1] at e2; cases e2
        cases hs : E.size el with
        | none => rw [hs] at h3; simp at h3
        | some n =>
          rw [hs] at h3
          have hn : n ≠ 0 := by simpa using h3
          simp only [Op.equalIn, Sem.run_bind, under_of ok ht, Result.andThen_ok, size_eq ok hs, hn, ne_eq, not_false_eq_true, if_true]
          simp only [sameAddr, beq_self_eq_true, if_true, Sem.run_pure]
          congr 1
          rw [Bool.eq_iff_iff]; simp
      · cases hr
    case h_7 => rename_i ht; cases hr; cases hx; cases hy; simp [Op.equalIn, under_of ok ht]
    case h_8 => rename_i ht; cases hr; cases hx; cases hy; simp [Op.equalIn, under_of ok ht]
    case h_9 => rename_i ht; cases hr; cases hx; cases hy; simp [Op.equalIn, under_of ok ht]
    case h_10 =>
      rename_i fields xs ys ht
      split at hr
      · rename_i hk
        cases hx; cases hy
        rename_i xs' hxs ys' hys
        have hst := (ok.eqok t hk).1
        have hf : P.fieldsOf t = fields := by simp [Program.fieldsOf, under_eq ok ht]
        rw [run_equalIn_struct w d t _ _ (by rw [hf]; exact under_eq ok ht) hst, hf]
        clear hf
        generalize fields.toList = fs at hr
        induction fs with
        | nil => simp only [aeqFields] at hr; cases hr; simp [Op.eqFields]
        | cons f fs ih =>
          simp only [aeqFields] at hr
          by_cases hn : f.name = "_"
          · simp only [hn, if_true] at hr
            simp only [Op.eqFields, hn, ne_eq, not_true_eq_false, if_false]
            exact ih hr
          · simp only [hn, if_false] at hr
            split at hr
            · rename_i a b ha hb
              obtain ⟨a', ha1, ha2⟩ := partV_ok (P := P) (w := w) ok hxs ha
              obtain ⟨b', hb1, hb2⟩ := partV_ok (P := P) (w := w) ok hys hb
              simp only [Op.eqFields, hn, ne_eq, not_false_eq_true, if_true, Sem.run_bind]
              rw [show xs'.toList.toArray = xs' from rfl] at ha1
              rw [show ys'.toList.toArray = ys' from rfl] at hb1
              rw [ha1, Result.andThen_ok, hb1, Result.andThen_ok]
              split at hr
              · rename_i hq
                rw [aeqIn_ok ok h d _ hq ha2 hb2]
                simpa using ih hr
              · rename_i hq
                rw [aeqIn_ok ok h d _ hr ha2 hb2]
                cases r
                · simp
                · exact absurd hr hq
            · cases hr
      · cases hr
    case h_11 => rename_i ht; cases hr; cases hx; cases hy <;> simp [Op.equalIn, under_of ok ht]
    case h_12 => rename_i ht; cases hr; cases hx <;> cases hy <;> simp [Op.equalIn, under_of ok ht]
    case h_13 => rename_i ht; cases hr; cases hx; cases hy <;> simp [Op.equalIn, under_of ok ht]
    case h_14 => rename_i ht; cases hr; cases hx; cases hy; simp [Op.equalIn, under_of ok ht]
    case h_15 => rename_i ht; cases hr; cases hx; cases hy; simp [Op.equalIn, under_of ok ht]
    case h_16 => rename_i ht; cases hr; cases hx <;> cases hy <;> simp [Op.equalIn, under_of ok ht]
    case h_17 => rename_i ht; cases hr; cases hx; cases hy <;> simp [Op.equalIn, under_of ok ht]
    case h_18 => cases hr
end
end Go.Eng

/- The abstract evaluator: append, copy. -/
namespace Go.Eng
section
variable {P : Program} {E : Env} {ρ : Ren} {s : St} {w : World}

theorem map_u8 (l : List UInt8) : VRels ρ (l.map fun b => Value.int .u8 b.toNat) (l.map fun b => Value.int .u8 b.toNat) := by
  induction l with
  | nil => exact .nil
  | cons a l ih => exact .cons (.int _ _) ih

theorem lenOf_ok {x x' : Value} (hx : VRel ρ x x') {n : Nat} (h : now (Builtin.lenOf x) = some n) : (Builtin.lenOf x').run P w = .ok n w := by
  cases hx <;> simp only [Builtin.lenOf] at h <;> first | (cases h; rfl) | cases h

theorem firstV_ok (h : Rel E ρ s w) {x x' : Value} (hx : VRel ρ x x') {size n m : Nat} (hm : now (Builtin.lenOf x) = some m) (hn : n ≤ m) {l : List Value} (hl : firstV s size n x = some l) :
    ∃ l', (Builtin.firstCells size n x').run P w = .ok l'.toArray w ∧ VRels ρ l l' := by
  cases hx <;> simp only [firstV] at hl <;> try (cases hl; done)
  case string b =>
    cases hl
    refine ⟨(b.data.toList.take n).map fun b => Value.int .u8 b.toNat, ?_, map_u8 _⟩
    have := bytes_extract b 0 n
    simp only [List.drop_zero, Nat.sub_zero] at this
    simp only [Builtin.firstCells, ← this, Sem.run_pure]
    simp
  case sliceNil => cases hl; exact ⟨[], by simp [Builtin.firstCells], .nil⟩
  case slice b o hi L n' c e =>
    split at hl
    · cases hl; rename_i h0; exact ⟨[], by simp [Builtin.firstCells, h0, loadCells, loadCellsFrom], .nil⟩
    · obtain ⟨l', h1, h2⟩ := run_loadN (P := P) h e hl
      exact ⟨l', by simp [Builtin.firstCells, h1], h2⟩
  case sliceOpen b o hi L n' c e hc he =>
    split at hl
    · cases hl; rename_i h0; exact ⟨[], by simp [Builtin.firstCells, h0, loadCells, loadCellsFrom], .nil⟩
    · obtain ⟨l', h1, h2⟩ := run_loadN (P := P) h e hl
      exact ⟨l', by simp [Builtin.firstCells, h1], h2⟩
  case sliceEnd b o hi o' L e hlt =>
    have h0 : n * size = 0 := by simp only [Builtin.lenOf] at hm; cases hm; simp [Nat.le_zero.1 hn]
    rw [if_pos h0] at hl; cases hl
    exact ⟨[], by simp [Builtin.firstCells, h0, loadCells, loadCellsFrom], .nil⟩
  case sliceZero b o hi o' L e =>
    have h0 : n * size = 0 := by simp only [Builtin.lenOf] at hm; cases hm; simp [Nat.le_zero.1 hn]
    rw [if_pos h0] at hl; cases hl
    exact ⟨[], by simp [Builtin.firstCells, h0, loadCells, loadCellsFrom], .nil⟩

theorem oneRow_ok {el : TypeId} {cs ca : List Value} (h : Rel E ρ s w) (ex : Bool) (hv : VRels ρ cs (ca.take cs.length)) (hx : ex = true → ca.length = cs.length) :
    ∃ ρ', (newRow el ca.toArray).run P w = .ok ⟨w.heap.size, 0, none⟩ (w.alloc (.cells ca.toArray el)) ∧ Rel E ρ' (s.row el cs ex).2 (w.alloc (.cells ca.toArray el)) ∧ Ev ρ s w ρ' (s.row el cs ex).2 (w.alloc (.cells ca.toArray el)) ∧
      ∃ L, ρ' s.nx cs.length = some L ∧ L.c = w.heap.size ∧ L.sz = ca.length ∧ L.esz = (E.size el).getD 0 := by
  obtain ⟨ρ', L, h1, h2, h3, h4, h5, h6⟩ := h.row el ex hv hx
  exact ⟨ρ', by simp [newRow], h1, h2, L, h3, h4, h5, h6⟩

theorem growBy_le (N : Nat) : ∀ r c, c < N → Builtin.growBy N r c ≤ N + (N + 768) / 4
  | 0, c, h => by simp [Builtin.growBy]; omega
  | r + 1, c, h => by
    simp only [Builtin.growBy]
    split
    · omega
    · by_cases h2 : c + (c + 768) / 4 < N
      · exact growBy_le N r _ h2
      · cases r with
        | zero => simp [Builtin.growBy]; omega
        | succ r => simp only [Builtin.growBy]; rw [if_pos (by omega)]; omega
theorem nextslicecap_le (N o : Nat) (h : o < N) : Builtin.nextslicecap N o ≤ 2 * N + 400 := by
  unfold Builtin.nextslicecap
  split
  · omega
  · split
    · omega
    · have := growBy_le N 4 o h; omega

theorem zeroCells_length (z : Array Value) (n : Nat) : (Builtin.zeroCells z n).toList.length = n * z.size := by simp [Builtin.zeroCells]
theorem zeroCells_rel {z : Array Value} (hz : flats z.toList = true) (n : Nat) : VRels ρ (Builtin.zeroCells z n).toList (Builtin.zeroCells z n).toList := by
  apply VRels.of_get rfl
  intro i v hv
  refine ⟨v, hv, ?_⟩
  simp only [Builtin.zeroCells, Array.toList_map, List.getElem?_map, Array.toList_range] at hv
  by_cases hi : i < n * z.size
  · rw [List.getElem?_range hi] at hv
    simp only [Option.map_some, Option.some.injEq] at hv
    have hz0 : 0 < z.size := by
      rcases Nat.eq_zero_or_pos z.size with h0 | h0
      · rw [h0] at hi; omega
      · exact h0
    have hlt := Nat.mod_lt i hz0
    have h1 : z[i % z.size]! = z[i % z.size] := by simp [hlt]
    obtain ⟨v', h2, h3⟩ := (VRels.of_flats ρ z.toList hz).get (i % z.size) z[i % z.size] (by simp [hlt])
    rw [Array.getElem?_toList, Array.getElem?_eq_getElem hlt] at h2
    cases h2
    rw [← hv, h1]; exact h3
  · rw [List.getElem?_eq_none (by simp; omega)] at hv
    cases hv

/-- What the model's append does once it knows what is appended. -/
def appTail (elem : TypeId) (size sLen sCap n : Nat) (zeros : Bool) (base : Option Addr) (s x : Value) (appended : Sem (Array Value)) : Sem Value := do
  let need := sLen + n
  if need ≤ sCap then
    let new ← appended
    if let some a := base then storeCells (a.add (sLen * size)) new.toList
    pure (.slice base need sCap)
  else
    if (need : Int) > IntKind.i64.max ∧ (zeros ∨ (← typeInfo elem).bytes = 0) then runtimePanic (.error "growslice: len out of range")
    if Builtin.nextslicecap need sCap * (← typeInfo elem).bytes > 2 ^ 48 then (if zeros then runtimePanic (.error "growslice: len out of range") else do
      if !(← Builtin.mayShare size sLen n base x) then mark .noRoom
      unsupported (.resourceLimit "append: a slice or a string whose bytes no memory bears"))
    let newCap ← choose (.appendCap need sCap elem)
    askRoom (newCap * (← typeInfo elem).bytes)
    let old ← Builtin.firstCells size sLen s
    let new ← appended
    let rest := Builtin.zeroCells (← zeroValue elem).cells (newCap - need)
    pure (.slice (some (← newRow elem (old ++ new ++ rest))) need newCap)

/-- In place. -/
theorem appTail_in {elem : TypeId} {size sLen sCap n : Nat} {zeros : Bool} {base : Option Addr} {sv x : Value} {appended : Sem (Array Value)} {new' : List Value}
    (ha : appended.run P w = .ok new'.toArray w) (hle : sLen + n ≤ sCap) {w' : World}
    (hst : ∀ a, base = some a → (storeCells (a.add (sLen * size)) new').run P w = .ok () w') (hn : base = none → w' = w) :
    (appTail elem size sLen sCap n zeros base sv x appended).run P w = .ok (.slice base (sLen + n) sCap) w' := by
  unfold appTail
  simp only [Sem.run_bind, Sem.run_ite, hle, if_true, ha, Result.andThen_ok]
  cases base with
  | none => rw [hn rfl]; simp
  | some a => simp [hst a rfl]

/-- Anew. -/
theorem appTail_new (ok : E.Ok P) {elem : TypeId} {size sLen sCap n : Nat} {zeros : Bool} {base : Option Addr} {sv x : Value} {appended : Sem (Array Value)} {old' new' : List Value} {i : TypeInfo} {z : Value}
    (hi : E.tt.get elem = some i) (hz : E.zero elem = some z) (hb0 : 0 < i.bytes) (hbig : (4 * (sLen + n) + 4000) * i.bytes ≤ 2 ^ 46)
    (ho : (Builtin.firstCells size sLen sv).run P w.drew = .ok old'.toArray w.drew) (ha : appended.run P w.drew = .ok new'.toArray w.drew) (hlt : ¬ sLen + n ≤ sCap) :
    ∃ cap, sLen + n ≤ cap ∧ (appTail elem size sLen sCap n zeros base sv x appended).run P w =
      .ok (.slice (some ⟨w.heap.size, 0, none⟩) (sLen + n) cap) (w.drew.alloc (.cells (old' ++ new' ++ (Builtin.zeroCells z.cells (cap - (sLen + n))).toList).toArray elem)) := by
  have hneed : 4 * (sLen + n) + 4000 ≤ 2 ^ 46 := Nat.le_trans (Nat.le_mul_of_pos_right _ hb0) hbig
  have h1 : ¬ (((sLen + n : Nat) : Int) > IntKind.i64.max ∧ (zeros = true ∨ i.bytes = 0)) := by
    rintro ⟨h2, -⟩
    have h3 : IntKind.i64.max = 9223372036854775807 := by decide
    omega
  have h2 : ¬ (Builtin.nextslicecap (sLen + n) sCap * i.bytes > 2 ^ 48) := by
    have h3 := nextslicecap_le (sLen + n) sCap (by omega)
    have h4 : Builtin.nextslicecap (sLen + n) sCap * i.bytes ≤ (4 * (sLen + n) + 4000) * i.bytes := Nat.mul_le_mul_right _ (by omega)
    omega
  obtain ⟨hzr, -⟩ := zero_of (w := w.drew) ok hz
  refine ⟨Question.cut (.appendCap (sLen + n) sCap elem) (w.tape w.drawn (.appendCap (sLen + n) sCap elem)), by simp only [Question.cut]; omega, ?_⟩
  unfold appTail
  simp only [Sem.run_bind, Sem.run_ite, hlt, if_false, info_of ok hi, Result.andThen_ok, h1, h2, Sem.run_pure, run_choose, Question.forced, Bool.false_eq_true, World.drew_eq, run_askRoom, ho, ha, hzr, newRow, run_newObj]
  have e : old'.toArray ++ new'.toArray ++ Builtin.zeroCells z.cells (Question.cut (.appendCap (sLen + n) sCap elem) (w.tape w.drawn (.appendCap (sLen + n) sCap elem)) - (sLen + n)) =
      (old' ++ new' ++ (Builtin.zeroCells z.cells (Question.cut (.appendCap (sLen + n) sCap elem) (w.tape w.drawn (.appendCap (sLen + n) sCap elem)) - (sLen + n))).toList).toArray := by
    apply Array.ext'; simp
  rw [e]; rfl

theorem le_mul_of (a b c : Nat) (h : a ≤ b / c) (hc : 0 < c) : a * c ≤ b := (Nat.le_div_iff_mul_le hc).1 h

/-- growV against the model's tail of append. -/
theorem growV_ok (ok : E.Ok P) (h : Rel E ρ s w) {elem : TypeId} {size sLen cp n : Nat} {zeros : Bool} {base : Option Addr} {sv' x' : Value} {appended : Sem (Array Value)} {new : List Value} {i : TypeInfo} {z : Value}
    (hi : E.tt.get elem = some i) (hz : E.zero elem = some z) (hzs : z.cells.size = size) (hsz : E.size elem = some size) (hs0 : 0 < size) (hb0 : 0 < i.bytes) (hbig : (4 * (sLen + n) + 4000) * i.bytes ≤ 2 ^ 46) (hlen : new.length = n * size)
    (hsv : VRel ρ (.slice base sLen cp) sv')
    (ha : ∀ w0 : World, Rel E ρ s w0 → ∃ new', appended.run P w0 = .ok new'.toArray w0 ∧ VRels ρ new new')
    {v : Value} {s' : St} (hg : growV s elem size base sLen cp n new = some (v, s')) :
    ∃ base' sCap', sv' = .slice base' sLen sCap' ∧ VOk P E ρ s w (appTail elem size sLen sCap' n zeros base' sv' x' appended) v s' := by
  obtain ⟨new', ha1, ha2⟩ := ha w h
  have hd := h.draw
  obtain ⟨new'', hd1, hd2⟩ := ha w.drew hd.1
  -- what is common to all new rows
  have hnew : ∀ (base' : Option Addr) (sCap' : Nat) (old old' : List Value), ¬ sLen + n ≤ sCap' → (Builtin.firstCells size sLen sv').run P w.drew = .ok old'.toArray w.drew → VRels ρ old old' →
      VOk P E ρ s w (appTail elem size sLen sCap' n zeros base' sv' x' appended) (.slice (some (s.row elem (old ++ new) false).1) (sLen + n) 0) (s.row elem (old ++ new) false).2 ∨ ¬ (old.length = sLen * size) := by
    intro base' sCap' old old' hlt ho hv
    by_cases hol : old.length = sLen * size
    · left
      obtain ⟨cap, hcap, hrun⟩ := appTail_new (zeros := zeros) (base := base') (x := x') ok hi hz hb0 hbig ho hd1 hlt
      have hl1 := hv.length_eq
      have hl2 := hd2.length_eq
      obtain ⟨ρ', L, r1, r2, r3, r4, r5, r6⟩ := hd.1.row elem (cs := old ++ new) (ca := old' ++ new'' ++ (Builtin.zeroCells z.cells (cap - (sLen + n))).toList) false
        (by rw [List.take_append_of_le_length (by simp; omega), List.take_of_length_le (by simp; omega)]; exact hv.append hd2) (by simp)
      refine ⟨ρ', _, _, hrun, r1, hd.2.trans r2, ?_⟩
      have hco : 0 + cap * L.esz = L.sz := by
        rw [r6, r5, hsz]
        simp only [List.length_append, zeroCells_length, hzs, Option.getD_some]
        rw [← hl1, ← hl2, hol, hlen, ← Nat.add_mul, ← Nat.add_mul, show sLen + n + (cap - (sLen + n)) = cap from by omega]
        omega
      have := VRel.sliceOpen (ρ := ρ') (o := 0) (sLen + n) cap r3 hco (by rw [r6, hsz]; exact hs0)
      rw [r4] at this
      exact this
    · exact .inr hol
  cases base with
  | none =>
    cases hsv
    refine ⟨none, cp, rfl, ?_⟩
    simp only [growV] at hg
    split at hg
    · rename_i hn0
      split at hg
      · rename_i hl0
        cases hg
        have := appTail_in (elem := elem) (size := size) (zeros := zeros) (base := none) (sv := .slice none sLen cp) (x := x') ha1 (show sLen + n ≤ cp by omega) (w' := w) (fun _ hh => by cases hh) (fun _ => rfl)
        exact VOk.here h this (by rw [hn0, hl0]; exact .sliceNil _ _)
      · cases hg
    · split at hg
      · rename_i hn0 hc0
        simp only [freshV] at hg
        split at hg
        · rename_i hl0
          cases hg
          rcases hnew none cp [] [] (by omega) (by simp [Builtin.firstCells]) .nil with h1 | h1
          · simpa [hl0] using h1
          · exact absurd (by simp [hl0]) h1
        · cases hg
      · cases hg
  | some a =>
    obtain ⟨b, o, spot⟩ := a
    have hfresh : ∀ (base' : Option Addr) (sCap' : Nat), ¬ sLen + n ≤ sCap' → freshV s elem size sLen n (some ⟨b, o, spot⟩) new = some (v, s') →
        VOk P E ρ s w (appTail elem size sLen sCap' n zeros base' sv' x' appended) v s' := by
      intro base' sCap' hlt hf
      simp only [freshV] at hf
      split at hf
      · rename_i old hr
        cases hf
        have hol : old.length = sLen * size := by
          cases spot with
          | none => simp [readN] at hr
          | some hi =>
            have : ∃ L, ρ b hi = some L := by cases hsv <;> exact ⟨_, by assumption⟩
            obtain ⟨L, hρ⟩ := this
            exact (readN_rel h hρ hr).choose_spec.choose_spec.choose_spec.2.2.1
        have hfirst : ∃ old', (Builtin.firstCells size sLen sv').run P w.drew = .ok old'.toArray w.drew ∧ VRels ρ old old' := by
          refine firstV_ok (m := sLen) hd.1 hsv rfl (Nat.le_refl _) ?_
          simp only [firstV]
          split
          · rename_i h0
            rw [h0] at hr hol
            rw [List.eq_nil_of_length_eq_zero hol]
          · exact hr
        obtain ⟨old', h1, h2⟩ := hfirst
        rcases hnew base' sCap' old old' hlt h1 h2 with h3 | h3
        · exact h3
        · exact absurd hol h3
      · cases hf
    cases cp with
    | succ c =>
      have hinv : ∃ hi L o', spot = some hi ∧ ρ b hi = some L ∧ sv' = .slice (some ⟨Loc.c L, o', none⟩) sLen c ∧ (o' = o ∨ (sLen = 0 ∧ c = 0)) := by
        cases hsv
        case slice => exact ⟨_, _, _, rfl, by assumption, rfl, .inl rfl⟩
        case sliceZero => exact ⟨_, _, _, rfl, by assumption, rfl, .inr ⟨rfl, rfl⟩⟩
      obtain ⟨hi', L, o', rfl, hρ, rfl, hform⟩ := hinv
      refine ⟨_, c, rfl, ?_⟩
      simp only [growV] at hg
      split at hg
      · rename_i hn0
        split at hg
        · rename_i hl0
          cases hg
          have hnil : new' = [] := by
            have := ha2.length_eq
            rw [hlen, hn0, Nat.zero_mul] at this
            exact List.eq_nil_of_length_eq_zero this.symm
          subst hnil
          have := appTail_in (elem := elem) (size := size) (zeros := zeros) (base := some ⟨L.c, o', none⟩) (sv := .slice (some ⟨L.c, o', none⟩) sLen c) (x := x') ha1 (show sLen + n ≤ c by omega) (w' := w) (fun _ _ => by simp [storeCells]) (fun _ => rfl)
          exact VOk.here h this (by rw [hn0]; exact hsv)
        · cases hg
      · split at hg
        · rename_i hn0 hle
          have ho : o' = o := by
            rcases hform with ho | ho
            · exact ho
            · omega
          subst ho
          cases hw : writeN s (aadd ⟨b, o', some hi'⟩ (sLen * size)) new with
          | none => rw [hw] at hg; cases hg
          | some s1 =>
            rw [hw] at hg; cases hg
            obtain ⟨w', q1, q2, q3⟩ := writeN_rel (P := P) h hρ ha2 hw
            have := appTail_in (elem := elem) (size := size) (zeros := zeros) (base := some ⟨L.c, o', none⟩) (sv := .slice (some ⟨L.c, o', none⟩) sLen c) (x := x') ha1 hle (w' := w') (fun a haa => by cases haa; rw [add_eq]; exact q1) (fun hh => by cases hh)
            exact ⟨ρ, w', _, this, q2, q3, .slice _ _ hρ⟩
        · rename_i hn0 hle
          exact hfresh _ _ hle hg
    | zero =>
      simp only [growV] at hg
      split at hg
      case h_2 => cases hg
      rename_i oc hoc
      simp only [openCap] at hoc
      split at hoc
      case h_2 => cases hoc
      rename_i cs e wsz frz ex hi' hbl
      split at hoc
      case isFalse => cases hoc
      rename_i hcc
      obtain ⟨rfl, -, hoh⟩ := hcc
      cases hoc
      -- the two forms of a slice of unknown capacity
      have hinv : ∃ L, ρ b hi' = some L ∧ ∃ o' c, sv' = .slice (some ⟨L.c, o', none⟩) sLen c ∧ ((o' = o ∧ o + c * L.esz = L.sz) ∨ (sLen = 0 ∧ c = 0 ∧ hi' < o + L.esz)) := by
        cases hsv
        case sliceOpen => exact ⟨_, by assumption, o, _, rfl, .inl ⟨rfl, by assumption⟩⟩
        case sliceEnd => exact ⟨_, by assumption, _, 0, rfl, .inr ⟨rfl, rfl, by assumption⟩⟩
      obtain ⟨L, hρ, o', c, rfl, hform⟩ := hinv
      obtain ⟨ca, fz, hL1, hL2⟩ := h.cells hρ hbl
      obtain ⟨-, k3, k4, k5, k6, k7, k8, k9, k10⟩ := hL2
      have hesz : L.esz = size := by rw [k6, hsz]; rfl
      have hlow : (hi' - o) / size ≤ c := by
        rcases hform with ⟨-, hc⟩ | ⟨-, hc, hlt⟩
        · rw [hesz] at hc
          have : hi' - o ≤ c * size := by omega
          exact (Nat.div_le_iff_le_mul_add_pred hs0).2 (by rw [Nat.mul_comm] at this; omega)
        · rw [Nat.div_eq_of_lt (by omega)]; omega
      refine ⟨_, c, rfl, ?_⟩
      split at hg
      · rename_i hn0
        split at hg
        · rename_i hl0
          cases hg
          have hnil : new' = [] := by
            have := ha2.length_eq
            rw [hlen, hn0, Nat.zero_mul] at this
            exact List.eq_nil_of_length_eq_zero this.symm
          subst hnil
          have := appTail_in (elem := e) (size := size) (zeros := zeros) (base := some ⟨L.c, o', none⟩) (sv := .slice (some ⟨L.c, o', none⟩) sLen c) (x := x') ha1 (show sLen + n ≤ c by omega) (w' := w) (fun _ _ => by simp [storeCells]) (fun _ => rfl)
          refine VOk.here h this ?_
          rw [hn0, Nat.add_zero]; exact hsv
        · cases hg
      · split at hg
        · rename_i hn0 hle
          cases hw : writeN s (aadd ⟨b, o, some hi'⟩ (sLen * size)) new with
          | none => rw [hw] at hg; cases hg
          | some s1 =>
            rw [hw] at hg; cases hg
            obtain ⟨w', q1, q2, q3⟩ := writeN_rel (P := P) h hρ ha2 hw
            rcases hform with ⟨rfl, hc⟩ | ⟨hl0, hc0, hlt⟩
            · have := appTail_in (elem := e) (size := size) (zeros := zeros) (base := some ⟨L.c, o', none⟩) (sv := .slice (some ⟨L.c, o', none⟩) sLen c) (x := x') ha1 (show sLen + n ≤ c by omega) (w' := w') (fun a haa => by cases haa; rw [add_eq]; exact q1) (fun hh => by cases hh)
              exact ⟨ρ, w', _, this, q2, q3, .sliceOpen _ _ hρ hc (by rw [hesz]; exact hs0)⟩
            · exfalso; omega
        · rename_i hn0 hle
          split at hg
          case h_2 => cases hg
          rename_i cs2 e2 wsz2 hbl2
          have hbl3 := hbl.symm.trans hbl2; cases hbl3
          split at hg
          case isFalse => cases hg
          rename_i hcond
          obtain ⟨ho0, hsp, hfull, hone⟩ := hcond
          have ho1 : o = 0 := ho0
          subst ho1
          have hsp1 : hi' = cs.length := by simpa using hsp
          subst hsp1
          cases hg
          have hlen2 := ha2.length_eq
          have hlen3 := hd2.length_eq
          have hnpos : 0 < n := Nat.pos_of_ne_zero hn0
          have hnew0 : 0 < new.length := by rw [hlen]; exact Nat.mul_pos hnpos hs0
          have hfreshb : ρ b (cs.length + new.length) = none := by
            cases hq : ρ b (cs.length + new.length) with
            | none => rfl
            | some L2 =>
              obtain ⟨_, _, _, m2⟩ := h.cells hq hbl
              have := m2.2.1; omega
          have hvv := k8 k7
          rw [List.take_of_length_le (Nat.le_refl _)] at hvv
          have le : ∀ LN, ρ.le (ρ.with b (cs.length + new.length) LN) := by
            intro LN b' hi2 L2 e2
            by_cases hbb : b' = b ∧ hi2 = cs.length + new.length
            · rw [hbb.1, hbb.2, hfreshb] at e2; cases e2
            · simp [Ren.with, hbb, e2]
          have hzf : ∀ hi L q, ρ b hi = some L → L.z = some q → False := h.zfree E hbl (by intro _ _ _ _ hh; cases hh)
          have hzn : ∀ hi L, ρ b hi = some L → L.z = none := fun hi L e => by
            cases hq : L.z with
            | none => rfl
            | some q => exact (hzf _ _ _ e hq).elim
          by_cases hin : sLen + n ≤ c
          · -- there is room
            have hform' : o' = 0 ∧ 0 + c * L.esz = L.sz := by
              rcases hform with hf | ⟨hl0, hc0, hlt⟩
              · exact hf
              · omega
            obtain ⟨rfl, hc⟩ := hform'
            have hroom : cs.length + new'.length ≤ L.sz := by
              rw [← hlen2, hlen, ← hfull, ← Nat.add_mul, ← hc, Nat.zero_add, hesz]
              exact Nat.mul_le_mul_right _ hin
            obtain ⟨w', q1, q2⟩ := run_storeCells (P := P) (0 + sLen * size) new' 0 hL1 (by omega) (by rw [ha2.all_oneCell]; exact hone) (fun k hk => k9 rfl k (by omega))
            have hrun := appTail_in (elem := e) (size := size) (zeros := zeros) (base := some ⟨L.c, 0, none⟩) (sv := .slice (some ⟨L.c, 0, none⟩) sLen c) (x := x') ha1 hin (w' := w') (fun a haa => by cases haa; rw [add_eq]; exact q1) (fun hh => by cases hh)
            simp only [Nat.zero_add, Nat.add_zero, hfull] at q2
            have := Rel.grow h (h.lt E hρ) ⟨_, _, hρ⟩ (o2 := .cells (cs ++ new) e wsz false false) (hiN := cs.length + new.length) (LN := L) (w' := w') hfreshb hzf (hzn _ _ hρ) (.inr ⟨_, _, hρ, rfl⟩)
              (Nat.le_of_eq q2.size.symm) q2.os q2.tape q2.output (fun k hk hn => q2.there k (fun hkk => hn _ _ hρ hkk.symm)) ?_
            · refine ⟨_, w', _, hrun, this.1, this.2, ?_⟩
              exact VRel.sliceOpen (o := 0) _ _ (Ren.with_same _ _ _ _) hc (by rw [hesz]; exact hs0)
            · intro hi2 L2 e2
              by_cases hh : hi2 = cs.length + new.length
              · subst hh
                rw [Ren.with_same] at e2; cases e2
                refine ⟨_, q2.here, rfl, by simp, by omega, ?_, k6, by simp; omega, ?_, fun _ => k9 rfl, fun hx => by cases hx⟩
                · simp only [List.size_toArray, List.length_append, List.length_take, List.length_drop, Array.length_toList]; omega
                · intro _
                  rw [List.take_of_length_le (by simp)]
                  have hl : (ca.toList.take cs.length ++ new').length = cs.length + new.length := by simp only [List.length_append, List.length_take, Array.length_toList]; omega
                  rw [show (ca.toList.take cs.length ++ new' ++ ca.toList.drop (cs.length + new'.length)).toArray.toList = ca.toList.take cs.length ++ new' ++ ca.toList.drop (cs.length + new'.length) from rfl,
                    List.take_append_of_le_length (by omega), List.take_of_length_le (by omega)]
                  exact (hvv.append ha2).mono (le _)
              · simp only [Ren.with, hh, and_false, if_false] at e2
                obtain ⟨ca2, fz2, m1, m2⟩ := h.cells e2 hbl
                obtain ⟨-, n3, n4, n5, n6, n7, n8, n9, n10⟩ := m2
                by_cases hcc : L2.c = L.c
                · rw [hcc] at m1 ⊢
                  rw [hL1] at m1; cases m1
                  refine ⟨_, q2.here, rfl, by simp; omega, n4, ?_, n6, by simp; omega, ?_, fun _ => n9 rfl, fun hx => by cases hx⟩
                  · rw [← n5]; simp only [List.size_toArray, List.length_append, List.length_take, List.length_drop, Array.length_toList]; omega
                  · intro hw2
                    have := n8 hw2
                    rw [List.take_append_of_le_length (by omega)]
                    rw [show (ca.toList.take cs.length ++ new' ++ ca.toList.drop (cs.length + new'.length)).toArray.toList = ca.toList.take cs.length ++ new' ++ ca.toList.drop (cs.length + new'.length) from rfl,
                      List.append_assoc, List.take_append_of_le_length (by simp; omega), List.take_take, Nat.min_eq_left (by omega)]
                    exact this.mono (le _)
                · refine ⟨_, (q2.there _ hcc).trans m1, rfl, by simp; omega, n4, n5, n6, by simp; omega, ?_, fun _ => n9 rfl, fun hx => by cases hx⟩
                  intro hw2
                  rw [List.take_append_of_le_length (by omega)]
                  exact (n8 hw2).mono (le _)
          · -- it is made anew
            have hfirst : ∃ old', (Builtin.firstCells size sLen (.slice (some ⟨L.c, o', none⟩) sLen c)).run P w.drew = .ok old'.toArray w.drew ∧ VRels ρ cs old' := by
              refine firstV_ok (m := sLen) hd.1 hsv rfl (Nat.le_refl _) ?_
              simp only [firstV]
              split
              · rename_i h0
                rw [hfull] at h0
                rw [List.eq_nil_of_length_eq_zero h0]
              · simp only [readN, hbl]
                rw [if_pos ⟨k7, by omega⟩, hfull]
                simp
            obtain ⟨old', f1, f2⟩ := hfirst
            obtain ⟨cap, hcap, hrun⟩ := appTail_new (zeros := zeros) (base := some ⟨L.c, o', none⟩) (x := x') ok hi hz hb0 hbig f1 hd1 hin
            have f3 := f2.length_eq
            have hco : cap * size = (old' ++ new'' ++ (Builtin.zeroCells z.cells (cap - (sLen + n))).toList).length := by
              simp only [List.length_append, zeroCells_length, hzs]
              rw [← f3, ← hlen3, hlen, ← hfull, ← Nat.add_mul, ← Nat.add_mul, show sLen + n + (cap - (sLen + n)) = cap from by omega]
            have := Rel.grow hd.1 (h.lt E hρ) ⟨_, _, hρ⟩ (o2 := .cells (cs ++ new) e wsz false false) (hiN := cs.length + new.length) (LN := ⟨w.drew.heap.size, cap * size, size, none⟩)
              (w' := w.drew.alloc (.cells (old' ++ new'' ++ (Builtin.zeroCells z.cells (cap - (sLen + n))).toList).toArray e)) hfreshb hzf rfl (.inl rfl)
              (by simp) rfl rfl rfl (fun k hk _ => by rw [alloc_heap, if_neg (Nat.ne_of_lt hk)]) ?_
            · refine ⟨_, _, _, hrun, this.1, hd.2.trans this.2, ?_⟩
              exact VRel.sliceOpen (o := 0) (L := ⟨w.drew.heap.size, cap * size, size, none⟩) _ _ (Ren.with_same _ _ _ _) (by simp) hs0
            · intro hi2 L2 e2
              by_cases hh : hi2 = cs.length + new.length
              · subst hh
                rw [Ren.with_same] at e2; cases e2
                refine ⟨.cells (old' ++ new'' ++ (Builtin.zeroCells z.cells (cap - (sLen + n))).toList).toArray e, by rw [alloc_heap, if_pos rfl], ?_⟩
                refine ⟨rfl, by simp, ?_, by rw [hco]; simp, by rw [hsz]; rfl, by simp; omega, ?_, fun _ i hii => by simp, fun hx => by cases hx⟩
                · show cs.length + new.length ≤ cap * size
                  rw [hlen, ← hfull, ← Nat.add_mul]; exact Nat.mul_le_mul_right _ hcap
                · intro _
                  rw [List.take_of_length_le (by simp)]
                  rw [show (old' ++ new'' ++ (Builtin.zeroCells z.cells (cap - (sLen + n))).toList).toArray.toList = old' ++ new'' ++ (Builtin.zeroCells z.cells (cap - (sLen + n))).toList from rfl,
                    List.take_append_of_le_length (by simp; omega), List.take_of_length_le (by simp; omega)]
                  exact (f2.append hd2).mono (le _)
              · simp only [Ren.with, hh, and_false, if_false] at e2
                obtain ⟨ca2, fz2, m1, m2⟩ := h.cells e2 hbl
                obtain ⟨-, n3, n4, n5, n6, n7, n8, n9, n10⟩ := m2
                refine ⟨.cells ca2 e fz2, by rw [alloc_heap, if_neg (Nat.ne_of_lt (hd.1.clt E e2))]; exact m1, ?_⟩
                refine ⟨rfl, by simp; omega, n4, n5, n6, by simp; omega, ?_, fun _ => n9 rfl, fun hx => by cases hx⟩
                intro hw2
                rw [List.take_append_of_le_length (by omega)]
                exact (n8 hw2).mono (le _)
end
end Go.Eng
