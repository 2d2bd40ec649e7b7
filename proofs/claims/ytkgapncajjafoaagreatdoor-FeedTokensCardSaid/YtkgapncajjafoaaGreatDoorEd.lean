/- The abstract evaluator of the model, part d: definitions and laws, of no program. -/
import Derived.Test.YtkgapncajjafoaaGreatDoorEc
import Derived.Laws.BytesString
set_option linter.all false
/- The abstract evaluator: conversions; calls. -/
namespace Go.Eng
section
variable {P : Program} {E : Env} {ρ : Ren} {s : St} {w : World}

theorem bytesOfCells_ok : ∀ {l l' : List Value} {bs : List UInt8}, bytesOfCells l = some bs → VRels ρ l l' → l' = l ∧ ∃ ns : List Int, l = ns.map (Value.int .u8) ∧ bs = ns.map fun n => UInt8.ofNat n.toNat
  | [], _, bs, h, .nil => by
    simp only [bytesOfCells, Option.some.injEq] at h
    exact ⟨rfl, [], rfl, h.symm⟩
  | v :: l, _, bs, h, .cons (v' := v') (l' := l') hv hs => by
    unfold bytesOfCells at h
    split at h
    · cases ‹v :: l = []›
    · rename_i n vs heq
      cases heq
      cases hb : bytesOfCells l with
      | none => rw [hb] at h; cases h
      | some bs' =>
        rw [hb] at h
        simp only [Option.map_some, Option.some.injEq] at h
        cases hv
        obtain ⟨h1, ns, h2, h3⟩ := bytesOfCells_ok hb hs
        exact ⟨by rw [h1], n :: ns, by rw [h2]; rfl, by rw [← h, h3]; rfl⟩
    · cases h
theorem foldl_push (ns : List Int) : ∀ acc : ByteArray, ns.foldl (fun r n => r.push (UInt8.ofNat n.toNat)) acc = ⟨⟨acc.data.toList ++ ns.map fun n => UInt8.ofNat n.toNat⟩⟩ := by
  induction ns with
  | nil => intro acc; obtain ⟨⟨a⟩⟩ := acc; simp
  | cons n ns ih =>
    intro acc
    rw [List.foldl_cons, ih]
    obtain ⟨⟨a⟩⟩ := acc
    simp [ByteArray.push]

theorem freeze_new (w : World) (ca : Array Value) (e : TypeId) (n : Nat) :
    (w.alloc (.cells ca e)).freeze ⟨w.heap.size, n, none⟩ 1 = w.alloc (.cells ca e (n, n + 1)) := by
  unfold World.freeze
  rw [if_neg Nat.one_ne_zero]
  have : (w.alloc (.cells ca e)).heap.modify w.heap.size (fun
      | .cells c elem (lo, hi) => .cells c elem (if lo == hi then (n, n + 1) else (min lo n, max hi (n + 1)))
      | o => o) = (w.alloc (.cells ca e (n, n + 1))).heap := by
    apply Array.ext_getElem?
    intro i
    rw [Array.getElem?_modify, alloc_heap, alloc_heap]
    by_cases hi : w.heap.size = i
    · subst hi; simp
    · rw [if_neg hi, if_neg (Ne.symm hi), if_neg (Ne.symm hi)]
  have e2 : ∀ (h' : Array Obj), h' = (w.alloc (.cells ca e (n, n + 1))).heap → ({ w.alloc (.cells ca e) with heap := h' } : World) = w.alloc (.cells ca e (n, n + 1)) := by rintro _ rfl; rfl
  exact e2 _ this

theorem shape_of {c : Nat} {ca : Array Value} {e : TypeId} {fz : Nat × Nat} (h : w.heap[c]? = some (.cells ca e fz)) : w.shape? c = some (e, ca.size) := by simp [World.shape?, h]

theorem convV_ok (ok : E.Ok P) (h : Rel E ρ s w) {src dst : TypeId} {x x' v : Value} {s' : St} (hx : VRel ρ x x') (hv : convV E s src dst x = some (v, s')) : VOk P E ρ s w (convert src dst x') v s' := by
  unfold convV at hv
  split at hv
  · -- numbers
    rename_i d k kk n hs hd
    cases hv; cases hx
    refine VOk.here h ?_ (.int _ _)
    simp only [convert, Sem.run_bind, under_of ok hs, under_of ok hd, Result.andThen_ok]
    rw [wrapI_eq]; rfl
  · rename_i d kk n hs hd
    cases hv; cases hx
    refine VOk.here h ?_ (.string _)
    simp only [convert, Sem.run_bind, under_of ok hs, under_of ok hd, Result.andThen_ok]
    rfl
  · rename_i d b hs hd
    cases hv; cases hx
    refine VOk.here h ?_ (.string _)
    simp only [convert, Sem.run_bind, under_of ok hs, under_of ok hd, Result.andThen_ok]
    cases d <;> rfl
  · rename_i d e b hs hd
    split at hv
    · rename_i he hez
      cases hv; cases hx
      have hlen : b.size = (b.data.toList.map fun (b : UInt8) => Value.int .u8 b.toNat).length := by simp
      have hrun : ∃ cap, b.size ≤ cap ∧ (convert src dst (.string b)).run P w = .ok (.slice (some ⟨w.heap.size, 0, none⟩) b.size cap)
          (w.drew.alloc (.cells ((b.data.toList.map fun (b : UInt8) => Value.int .u8 b.toNat) ++ List.replicate (cap - b.size) (Value.int .u8 0)).toArray e (cap, cap + 1))) := by
        refine ⟨Question.cut (.appendCap b.size 0 e) (w.tape w.drawn (.appendCap b.size 0 e)), by simp only [Question.cut]; omega, ?_⟩
        generalize hcap : Question.cut (.appendCap b.size 0 e) (w.tape w.drawn (.appendCap b.size 0 e)) = cap
        have hcle : b.size ≤ cap := by rw [← hcap]; simp only [Question.cut]; omega
        have hcells : (b.data.map fun (b : UInt8) => Value.int .u8 b.toNat) ++ Array.replicate (cap - b.size) (Value.int .u8 0) = ((b.data.toList.map fun (b : UInt8) => Value.int .u8 b.toNat) ++ List.replicate (cap - b.size) (Value.int .u8 0)).toArray := by
          apply Array.ext'; simp
        have hsz : ((b.data.toList.map fun (b : UInt8) => Value.int .u8 b.toNat) ++ List.replicate (cap - b.size) (Value.int .u8 0)).toArray.size = cap := by
          simp only [List.size_toArray, List.length_append, List.length_replicate]; omega
        have hconv : (convert src dst (.string b)).run P w = (Conv.stringToBytes e b).run P w := by
          simp only [convert, Sem.run_bind, under_of ok hs, under_of ok hd, Result.andThen_ok]
          cases d <;> simp only [Sem.run_bind, under_of ok he, Result.andThen_ok]
        rw [hconv]
        simp only [Conv.stringToBytes, Sem.run_bind, run_choose, Question.forced, Bool.false_eq_true, if_false, Result.andThen_ok, World.drew_eq, newRow, run_newObj, World.alloc_eq, Sem.run_pure, markStringish, run_shape, hcap, hcells]
        have hh : (w.drew.alloc (.cells ((b.data.toList.map fun (b : UInt8) => Value.int .u8 b.toNat) ++ List.replicate (cap - b.size) (Value.int .u8 0)).toArray e)).heap[w.drew.heap.size]? = some (.cells ((b.data.toList.map fun (b : UInt8) => Value.int .u8 b.toNat) ++ List.replicate (cap - b.size) (Value.int .u8 0)).toArray e) := by
          rw [alloc_heap, if_pos rfl]
        rw [shape_of hh, hsz]
        simp only [run_freeze, freeze_new, Result.andThen_ok, Sem.run_pure]
        rfl
      obtain ⟨cap, hc, hrun⟩ := hrun
      have hd' := h.draw
      obtain ⟨ρ', L, r1, r2, r3, r4, r5, r6⟩ := hd'.1.row e (cs := b.data.toList.map fun (b : UInt8) => Value.int .u8 b.toNat) (ca := (b.data.toList.map fun (b : UInt8) => Value.int .u8 b.toNat) ++ List.replicate (cap - b.size) (Value.int .u8 0)) false
        (by rw [List.take_append_of_le_length (Nat.le_refl _), List.take_of_length_le (Nat.le_refl _)]; exact map_u8 _) (by simp) (cap, cap + 1)
        (by
          intro i hi
          simp only [List.length_append, List.length_replicate] at hi
          simp only
          omega)
      refine ⟨ρ', _, _, hrun, r1, hd'.2.trans r2, ?_⟩
      have := VRel.sliceOpen (ρ := ρ') (o := 0) (b.data.toList.map fun (b : UInt8) => Value.int .u8 b.toNat).length cap r3
        (by rw [r6, hez, r5]; simp only [List.length_append, List.length_replicate, Option.getD_some]; omega) (by rw [r6, hez]; decide)
      rw [r4, ← hlen] at this
      have hl2 : b.data.toList.length = b.size := by simp
      have h5 : (s.row e (b.data.toList.map fun (b : UInt8) => Value.int .u8 b.toNat) false).1 = ⟨s.nx, 0, some b.size⟩ := by rw [hlen]; rfl
      rw [h5, hl2]
      exact this
    · cases hv
  · rename_i e a n c hs hd
    split at hv
    · rename_i he
      cases hv; cases hx
      refine VOk.here h ?_ (.string _)
      simp only [convert, Sem.run_bind, under_of ok hs, under_of ok hd, Result.andThen_ok, under_of ok he]
      rfl
    · rename_i a0 he
      split at hv
      · rename_i l hl
        cases hb : bytesOfCells l with
        | none => rw [hb] at hv; cases hv
        | some bs =>
          rw [hb] at hv; cases hv
          have hinv : ∃ a' c', x' = .slice (some a') n c' ∧ ∃ l', (loadCells a' n).run P w = .ok l'.toArray w ∧ VRels ρ l l' := by
            cases hx
            case slice b o hi L c hρ =>
              obtain ⟨l', q1, q2⟩ := run_loadN (P := P) h hρ hl
              exact ⟨_, _, rfl, l', q1, q2⟩
            case sliceOpen b o hi L c hρ hc1 hc2 =>
              obtain ⟨l', q1, q2⟩ := run_loadN (P := P) h hρ hl
              exact ⟨_, _, rfl, l', q1, q2⟩
            case sliceEnd b o hi o' L hρ hlt =>
              obtain ⟨ca, el, fz, q1, q2, q3, q4⟩ := readN_rel h hρ hl
              have : l = [] := List.eq_nil_of_length_eq_zero q3
              subst this
              exact ⟨_, _, rfl, [], by simp [loadCells, loadCellsFrom], .nil⟩
            case sliceZero b o hi o' L hρ =>
              obtain ⟨ca, el, fz, q1, q2, q3, q4⟩ := readN_rel h hρ hl
              have : l = [] := List.eq_nil_of_length_eq_zero q3
              subst this
              exact ⟨_, _, rfl, [], by simp [loadCells, loadCellsFrom], .nil⟩
          obtain ⟨a', c', rfl, l', q1, q2⟩ := hinv
          obtain ⟨rfl, ns, rfl, hns2⟩ := bytesOfCells_ok hb q2
          refine VOk.here h ?_ (.string _)
          simp only [convert, Sem.run_bind, under_of ok hs, under_of ok hd, Result.andThen_ok, under_of ok he]
          rw [run_bytesToString w a' n c' ns q1, foldl_push]
          rw [hns2]
          rfl
      · cases hv
    · cases hv
  · rename_i t d hs hd
    cases hv; cases hx
    refine VOk.here h ?_ .ptrNil
    simp [convert, under_of ok hs, under_of ok hd, Conv.unsafePointer]
  · rename_i u hs hd
    cases hv; cases hx
    refine VOk.here h ?_ .ptrNil
    simp [convert, under_of ok hs, under_of ok hd, Conv.unsafePointer]
  · rename_i a hs hd
    cases hv
    refine VOk.here h (v' := x') ?_ hx
    cases hx <;> simp [convert, under_of ok hs, under_of ok hd, Conv.unsafePointer]
  · rename_i t a hs hd
    split at hv
    · rename_i cs e wsz frz ex hi hb hsp
      split at hv
      · rename_i hc
        obtain ⟨hc1, hc2⟩ := hc
        cases hv
        cases hx
        rename_i b o hib L hρ
        cases hsp
        obtain ⟨ca, fz, q1, q2⟩ := h.cells hρ hb
        obtain ⟨-, k3, k4, k5, -⟩ := q2
        cases hz : E.size t with
        | none => rw [hz] at hc2; simp at hc2
        | some n =>
          rw [hz] at hc2
          have hn : n ≠ 0 := by simpa using hc2
          refine VOk.here h ?_ (.ptr hρ)
          have hlt : ¬ (ca.size ≤ o) := by simp only at hc1; omega
          simp [convert, under_of ok hs, under_of ok hd, Conv.unsafePointer, Conv.seenAt, viewAt, shape_of q1, cellsIn, size_eq ok hz, hn, hlt]
      · cases hv
    · cases hv
  · rename_i u a hs hd
    split at hv
    · rename_i cs e wsz frz hb
      split at hv
      · rename_i hc
        obtain ⟨hc1, hc2, hc3⟩ := hc
        cases hv
        cases hx
        rename_i b o hib L hρ
        obtain ⟨ca, fz, q1, q2⟩ := h.cells hρ hb
        obtain ⟨-, k3, k4, k5, k6, k7, k8, k9, k10⟩ := q2
        have hsz := k10 rfl
        have hl := ok.lies _ _ _ _ hc2
        refine VOk.here h ?_ (.ptr hρ)
        have hva : (variablesAt ⟨L.c, o, none⟩ u 1).run P w = .ok true w := by
          simp only [variablesAt, Sem.run_bind, run_program, Result.andThen_ok, run_shape, shape_of q1, Sem.run_pure]
          rw [k5, hsz, hl]
        obtain ⟨n, hn0⟩ := Option.isSome_iff_exists.1 hc3
        have hz0 := size_eq (w := w) ok hn0
        · by_cases hn : n = 0 <;> simp [convert, under_of ok hs, under_of ok hd, Conv.unsafePointer, Conv.seenAt, viewAt, shape_of q1, hz0, hn, hva]
      · cases hv
    · cases hv
  · cases hv
end
end Go.Eng

/- The abstract evaluator: calls; all operations. -/
namespace Go.Eng

/-- What an operation's answer says of the model's. -/
def NextOk (P : Program) (E : Env) (ρ : Ren) (s : St) (w : World) (r : Result Next) : ANext → Prop
  | .val v s' => ∃ ρ' w' v', r = .ok (.value v') w' ∧ Rel E ρ' s' w' ∧ Ev ρ s w ρ' s' w' ∧ VRel ρ' v v'
  | .skip s' => ∃ ρ' w', r = .ok .skip w' ∧ Rel E ρ' s' w' ∧ Ev ρ s w ρ' s' w'
  | .enter f args => ∃ args' fn, r = .ok (.enter f args'.toArray) w ∧ VRels ρ args args' ∧ E.ft.get f = some fn ∧ fn.body.isSome = true
  | .round l args => ∃ L args', ρ l 0 = some L ∧ r = (Instr.yield L.c args'.toArray).run P w ∧ VRels ρ args args'
  | .defer d => ∃ d', r = .ok (.defer d') w ∧ DRel ρ d d'
  | .recover => r = .ok .recover w
  | .panic v => ∃ v', r = .halt (.panic v') w ∧ VRel ρ v v'

section
variable {P : Program} {E : Env} {ρ : Ren} {s : St} {w : World}

theorem minV_ok {x y x' y' v : Value} (hx : VRel ρ x x') (hy : VRel ρ y y') (h : minV x y = some v) : (Builtin.min2 x' y').run P w = .ok v w ∧ VRel ρ v v := by
  unfold minV at h
  split at h
  · cases h; cases hx; cases hy; exact ⟨by simp [Builtin.min2], .int _ _⟩
  · cases h
theorem maxV_ok {x y x' y' v : Value} (hx : VRel ρ x x') (hy : VRel ρ y y') (h : maxV x y = some v) : (Builtin.max2 x' y').run P w = .ok v w ∧ VRel ρ v v := by
  unfold maxV at h
  split at h
  · cases h; cases hx; cases hy; exact ⟨by simp [Builtin.max2], .int _ _⟩
  · cases h
theorem fold_ok {f : Value → Value → Option Value} {g : Value → Value → Sem Value} (hfg : ∀ {x y x' y' v : Value}, VRel ρ x x' → VRel ρ y y' → f x y = some v → (g x' y').run P w = .ok v w ∧ VRel ρ v v) :
    ∀ {ys ys' : List Value}, VRels ρ ys ys' → ∀ {x x' v : Value}, VRel ρ x x' → ys.foldlM f x = some v → ∃ v', (ys'.foldlM g x').run P w = .ok v' w ∧ VRel ρ v v'
  | _, _, .nil, x, x', v, hx, h => by simp only [List.foldlM_nil, pure, Option.some.injEq] at h; subst h; exact ⟨x', by simp, hx⟩
  | _, _, .cons (v := y) (v' := y') hy hs, x, x', v, hx, h => by
    simp only [List.foldlM_cons, bind, Option.bind] at h
    split at h
    · cases h
    · rename_i u hu
      obtain ⟨h1, h2⟩ := hfg hx hy hu
      obtain ⟨v', h3, h4⟩ := fold_ok hfg hs h2 h
      refine ⟨v', ?_, h4⟩
      rw [List.foldlM_cons, Sem.run_bind, h1, Result.andThen_ok, h3]

theorem callF_ok (ok : E.Ok P) (h : Rel E ρ s w) {f : FuncId} {args args' : List Value} {a : ANext} (ha : VRels ρ args args') (hc : callF E f args s = some a) :
    NextOk P E ρ s w ((callFunc f args'.toArray).run P w) a := by
  unfold callF at hc
  split at hc
  · rename_i fn hf
    have hP := ok.ft f fn hf
    split at hc
    · rename_i hb
      split at hc
      · cases hc
      · rename_i hn
        cases hc
        refine ⟨args', fn, ?_, ha, hf, hb⟩
        have hbn : fn.body ≠ none := by intro hh; rw [hh] at hb; cases hb
        simp [callFunc, hP, hn, hbn]
    · rename_i hb
      cases he : E.ext f args s with
      | none => rw [he] at hc; cases hc
      | some p =>
        obtain ⟨v, s'⟩ := p
        rw [he] at hc; cases hc
        have hbn : fn.body = none := by cases hh : fn.body <;> simp_all
        obtain ⟨ρ', w', v', h1, h2, h3, h4⟩ := ok.ext f args s v s' he fn hP hbn ρ w args' h ha
        exact ⟨ρ', w', v', h1, h2, h3, h4⟩
  · cases hc

theorem recvV_ok (ok : E.Ok P) (h : Rel E ρ s w) {t : TypeId} {b : Bool} {x x' v : Value} (hx : VRel ρ x x') (hv : recvV E s t b x = some v) (wr : Option String) :
    ∃ v', (receiverAt t (.val x') b wr).run P w = .ok v' w ∧ VRel ρ v v' := by
  unfold recvV at hv
  split at hv
  · rename_i e hu
    cases hv
    exact ⟨x', by simp [receiverAt, under_of ok hu, Place.get], hx⟩
  · rename_i e hu
    split at hv
    · rename_i a
      cases hx
      rename_i b' o hi L hρ
      obtain ⟨v', h1, h2⟩ := loadV_ok (P := P) ok h hρ hv
      refine ⟨v', ?_, h2⟩
      cases wr with
      | none => simp [receiverAt, under_of ok hu, Place.get, asAddr, h1]
      | some name =>
        have hw : (Builtin.ssaWrapNilChk_ #[t] t #[.pointer (some ⟨L.c, o, none⟩), strVal "", strVal name]).run P w = .ok (.pointer (some ⟨L.c, o, none⟩)) w := rfl
        simp [receiverAt, under_of ok hu, Place.get, asAddr, h1, hw]
    · cases hv
  · rename_i d hne hu
    cases hv
    refine ⟨x', ?_, hx⟩
    cases d <;> first | (simp [receiverAt, under_of ok hu, Place.get]; done) | exact absurd hu (by simpa using hne)
  · cases hv

theorem callM_ok (ok : E.Ok P) (h : Rel E ρ s w) {r r' : Value} {name : String} {args args' : List Value} {a : ANext} (hr : VRel ρ r r') (ha : VRels ρ args args') (hc : callM E r name args s = some a) :
    NextOk P E ρ s w ((callMethod r' name args'.toArray).run P w) a := by
  unfold callM at hc
  split at hc
  case h_2 => cases hc
  rename_i t v
  split at hc
  case h_2 => cases hc
  rename_i m hm
  split at hc
  case isFalse => cases hc
  rename_i hp
  split at hc
  case h_2 => cases hc
  rename_i f p hf
  split at hc
  case h_2 => cases hc
  rename_i rv hrv
  cases hr
  rename_i v' hv
  cases hi : E.tt.get t with
  | none => rw [hi] at hm; cases hm
  | some i =>
    rw [hi] at hm
    simp only [Option.bind_some] at hm
    obtain ⟨rv', q1, q2⟩ := recvV_ok (P := P) ok h hv hrv (some ((name.splitOn ".").getLastD name))
    have := callF_ok (P := P) ok h (VRels.cons q2 ha) hc
    have hrun : (callMethod (.iface t v') name args'.toArray).run P w = (callFunc f (rv' :: args').toArray).run P w := by
      have hpath : m.path = #[] := by simpa using hp
      obtain ⟨k, hk⟩ : ∃ k, P.types.size + Made.depth = k + 1 := ⟨P.types.size + Made.depth - 1, by simp only [Made.depth]; omega⟩
      simp only [callMethod, Sem.run_bind, run_program, Result.andThen_ok, hk]
      rw [method]
      simp only [Sem.run_bind, info_of ok hi, Result.andThen_ok, hm, hpath, follow, Sem.run_pure, hf, Array.toList_empty]
      simp only [List.getLastD_eq_getLast?] at q1
      simp [q1, hpath]
    rw [hrun]
    exact this

theorem array_first (v : Value) (l : List Value) : ((v :: l).toArray[0]? : Option Value) = some v := by simp
theorem extract_tail (v : Value) (l : List Value) : (v :: l).toArray.extract 1 (v :: l).toArray.size = l.toArray := by
  apply Array.ext'; simp

theorem callV_ok (ok : E.Ok P) (h : Rel E ρ s w) {f f' : Value} {args args' : List Value} {a : ANext} (hf : VRel ρ f f') (ha : VRels ρ args args') (hc : callV E f args s = some a) :
    NextOk P E ρ s w ((do let d ← Deferred.ofValue f' args'.toArray; invoke d.target d.args : Sem Next).run P w) a := by
  unfold callV at hc
  split at hc
  · rename_i g first captured
    cases hf
    rename_i first' captured' hn h1 h2
    have := callF_ok (P := P) ok h ((h1.append ha).append h2) hc
    have e : (do let d ← Deferred.ofValue (.func (.func g) first' captured') args'.toArray; invoke d.target d.args : Sem Next).run P w = (callFunc g (first'.toList ++ args' ++ captured'.toList).toArray).run P w := by
      have e1 : first' ++ args'.toArray ++ captured' = (first'.toList ++ args' ++ captured'.toList).toArray := by apply Array.ext'; simp
      simp only [Deferred.ofValue, Sem.run_bind, Sem.run_pure, Result.andThen_ok, invoke, e1]
    rw [e]; exact this
  · rename_i name first captured
    cases hf
    rename_i first' captured' hn h1 h2
    have hall := h1.append ha
    split at hc
    · rename_i r rest hr
      rw [hr] at hall
      obtain ⟨r', rest', hr', hrr, hrest⟩ : ∃ r' rest', first'.toList ++ args' = r' :: rest' ∧ VRel ρ r r' ∧ VRels ρ rest rest' := by
        generalize first'.toList ++ args' = q at hall
        cases hall with
        | cons a b => exact ⟨_, _, rfl, a, b⟩
      have := callM_ok (P := P) ok h hrr hrest hc
      have e1 : first' ++ args'.toArray = (r' :: rest').toArray := by rw [← hr']; apply Array.ext'; simp
      have e : (do let d ← Deferred.ofValue (.func (.method name) first' captured') args'.toArray; invoke d.target d.args : Sem Next).run P w = (callMethod r' name rest'.toArray).run P w := by
        simp only [Deferred.ofValue, Sem.run_bind, Sem.run_pure, Result.andThen_ok, invoke, e1, array_first, extract_tail]
      rw [e]; exact this
    · cases hc
  · rename_i t name first captured
    cases hf
    rename_i first' captured' hn h1 h2
    have hall := h1.append ha
    split at hc
    · rename_i r rest hr
      rw [hr] at hall
      obtain ⟨r', rest', hr', hrr, hrest⟩ : ∃ r' rest', first'.toList ++ args' = r' :: rest' ∧ VRel ρ r r' ∧ VRels ρ rest rest' := by
        generalize first'.toList ++ args' = q at hall
        cases hall with
        | cons a b => exact ⟨_, _, rfl, a, b⟩
      have e1 : first' ++ args'.toArray = (r' :: rest').toArray := by rw [← hr']; apply Array.ext'; simp
      split at hc
      · rename_i ms hu
        have := callM_ok (P := P) ok h hrr hrest hc
        have e : (do let d ← Deferred.ofValue (.func (.methodOf t name) first' captured') args'.toArray; invoke d.target d.args : Sem Next).run P w = (callMethod r' name rest'.toArray).run P w := by
          simp only [Deferred.ofValue, Sem.run_bind, Sem.run_pure, Result.andThen_ok, invoke, e1, array_first, extract_tail, under_of ok hu]
        rw [e]; exact this
      · rename_i d hne hu
        have := callM_ok (P := P) ok h (.iface t hrr) hrest hc
        have e : (do let d ← Deferred.ofValue (.func (.methodOf t name) first' captured') args'.toArray; invoke d.target d.args : Sem Next).run P w = (callMethod (.iface t r') name rest'.toArray).run P w := by
          simp only [Deferred.ofValue, Sem.run_bind, Sem.run_pure, Result.andThen_ok, invoke, e1, array_first, extract_tail, under_of ok hu]
        rw [e]; exact this
      · cases hc
    · cases hc
  · rename_i t path g p first captured
    cases hf
    rename_i first' captured' hn h1 h2
    have hall := h1.append ha
    split at hc
    · rename_i r rest hr
      rw [hr] at hall
      obtain ⟨r', rest', hr', hrr, hrest⟩ : ∃ r' rest', first'.toList ++ args' = r' :: rest' ∧ VRel ρ r r' ∧ VRels ρ rest rest' := by
        generalize first'.toList ++ args' = q at hall
        cases hall with
        | cons a b => exact ⟨_, _, rfl, a, b⟩
      have e1 : first' ++ args'.toArray = (r' :: rest').toArray := by rw [← hr']; apply Array.ext'; simp
      split at hc
      case isFalse => cases hc
      rename_i hp
      have hpath : path = #[] := by simpa using hp
      subst hpath
      split at hc
      · rename_i rv hrv
        obtain ⟨rv', q1, q2⟩ := recvV_ok (P := P) ok h hrr hrv none
        have := callF_ok (P := P) ok h (VRels.cons q2 hrest) hc
        have e : (do let d ← Deferred.ofValue (.func (.via t #[] g p) first' captured') args'.toArray; invoke d.target d.args : Sem Next).run P w = (callFunc g (rv' :: rest').toArray).run P w := by
          simp only [Deferred.ofValue, Sem.run_bind, Sem.run_pure, Result.andThen_ok, invoke, e1, array_first, extract_tail, receiverVia, Array.toList_empty, follow, q1]
          congr 1
          apply congrArg; apply Array.ext'; simp
        rw [e]; exact this
      · cases hc
    · cases hc
  · rename_i l first captured
    cases hc
    cases hf
    · rename_i hn _ _; exact hn.elim
    · rename_i L first' captured' hl h1 h2
      refine ⟨L, first'.toList ++ args', hl, ?_, h1.append ha⟩
      have e1 : first' ++ args'.toArray = (first'.toList ++ args').toArray := by apply Array.ext'; simp
      simp only [Deferred.ofValue, Sem.run_bind, Sem.run_pure, Result.andThen_ok, invoke, e1]
  · cases hc
end
end Go.Eng

/- The abstract evaluator: all operations. -/
namespace Go.Eng
section
variable {P : Program} {E : Env} {ρ : Ren} {s : St} {w : World}

theorem run_loadBytes {c : Nat} {ca : Array Value} {e : TypeId} {fz : Nat × Nat} (h : w.heap[c]? = some (.cells ca e fz)) : ∀ (n o : Nat) (acc : ByteArray) (ns : List Int), o + n ≤ ca.size → (ca.toList.drop o).take n = ns.map (Value.int .u8) →
    (loadBytes ⟨c, o, none⟩ acc n).run P w = .ok (ns.foldl (fun r n => r.push (UInt8.ofNat n.toNat)) acc) w
  | 0, o, acc, ns, _, hns => by
    have : ns = [] := by simpa using hns.symm
    subst this; simp [loadBytes]
  | n + 1, o, acc, ns, hb, hns => by
    have hlt : o < ca.size := by omega
    have hv : ca[o]? = some ca[o] := Array.getElem?_eq_getElem hlt
    have hd : ca.toList.drop o = ca[o] :: ca.toList.drop (o + 1) := by
      rw [List.drop_eq_getElem_cons (by simpa using hlt)]; rfl
    rw [hd, List.take_succ_cons] at hns
    cases ns with
    | nil => simp at hns
    | cons m ns =>
      simp only [List.map_cons, List.cons.injEq] at hns
      rw [loadBytes, Sem.run_bind, run_load_at h hv, Result.andThen_ok, hns.1]
      simp only [add_eq, List.foldl_cons]
      exact run_loadBytes h n (o + 1) _ ns (by omega) hns.2

theorem upd_freeze {c : Nat} {ca : Array Value} {e : TypeId} {fz : Nat × Nat} (h : w.heap[c]? = some (.cells ca e fz)) (o n : Nat) : ∃ fz', Upd w c (.cells ca e fz') (w.freeze ⟨c, o, none⟩ n) := by
  by_cases hn : n = 0
  · refine ⟨fz, ?_⟩
    unfold World.freeze
    rw [if_pos hn]
    exact Upd.same h
  · obtain ⟨lo, hi⟩ := fz
    refine ⟨if lo == hi then (o, o + n) else (min lo o, max hi (o + n)), ?_⟩
    unfold World.freeze
    rw [if_neg hn]
    refine ⟨?_, ?_, by simp, rfl, rfl, rfl⟩
    · simp [Array.getElem?_modify, h]
    · intro k hk
      simp [Array.getElem?_modify, Ne.symm hk]

theorem lies_self {t : TypeId} (hs : P.cellsOf t = 1) {n o c : Nat} (h : o + n ≤ c) : liesAt P P.depth t c o t n = true := by
  obtain ⟨k, hk⟩ : ∃ k, P.depth = k + 1 := ⟨P.depth - 1, by simp only [Program.depth]; omega⟩
  have hsame : sameLayout P P.depth t t = true := by rw [hk]; simp [sameLayout]
  have hrow : rowAt P (sameLayout P P.depth · t) P.depth t c o n = true := by
    generalize hf : (sameLayout P P.depth · t) = fits
    have hfit : fits t = true := by rw [← hf]; exact hsame
    rw [hk, rowAt]
    simp [hs, Nat.mod_one, h, hfit]
  have : liesAt P (k + 1) t c o t n = true := by
    rw [liesAt, hrow]; rfl
  rw [hk]; exact this

theorem unsafeString_eq (argTypes : Array TypeId) (ty : TypeId) (p : Option Addr) (x : Value) : Builtin.unsafeString_ argTypes ty #[.pointer p, x] = (do
  let n ← asInt x
  let some pt := argTypes[0]? | stuck "unsafe.String: no argument types"
  if n < 0 then runtimePanic (.error "unsafe.String: len out of range")
  if n > IntKind.i64.max then unsupported (.unsafePointer "String: a length above the largest int")
  match p with
  | none =>
    if n = 0 then pure (.string .empty)
    else runtimePanic (.error "unsafe.String: ptr is nil and len is not zero")
  | some a =>
    if n = 0 then pure (.string .empty)
    else if ← variablesAt a (← elemOf pt) n.toNat then do
      let s ← loadBytes a .empty n.toNat
      freeze a n.toNat
      pure (.string s)
    else unsupported (.unsafePointer "String: not so many bytes at ptr")) := rfl
theorem sliceData_eq (argTypes : Array TypeId) (ty : TypeId) (a : Addr) (l c : Nat) : Builtin.unsafeSliceData_ argTypes ty #[.slice (some a) l c] = (do
    if c ≠ 0 then pure (.pointer (some a))
    else if (← viewAt a.block).isSome then pure (.pointer (some a))
    else pure (.pointer (some ⟨← newObj (.view a (← elemOf ty)), 0, none⟩))) := rfl

theorem unsafeStringV_ok (ok : E.Ok P) (h : Rel E ρ s w) {argTypes : Array TypeId} {p p' : Option Addr} {k : IntKind} {n : Int} {v : Value} {s' : St} (ty : TypeId) (hp : VRel ρ (.pointer p) (.pointer p'))
    (hv : unsafeStringV E s argTypes[0]? p n = some (v, s')) (hpt : argTypes[0]?.isSome) : VOk P E ρ s w (Builtin.unsafeString_ argTypes ty #[.pointer p', .int k n]) v s' := by
  obtain ⟨pt, hpt⟩ := Option.isSome_iff_exists.1 hpt
  unfold unsafeStringV at hv
  rw [hpt] at hv
  split at hv
  · rename_i hn0
    cases hv
    subst hn0
    have hmax : ¬ ((0 : Int) > IntKind.i64.max) := by decide
    refine VOk.here h ?_ (.string _)
    rw [unsafeString_eq]
    cases p' <;> simp [asInt, asIntOf, hpt, hmax]
  · rename_i hn0
    simp only [Option.bind_some] at hv
    split at hv
    case h_2 => cases hv
    rename_i u a hu
    split at hv
    case h_2 => cases hv
    rename_i cs e wsz ex hi l hb hsp hl
    split at hv
    case isFalse => cases hv
    rename_i hc
    obtain ⟨c1, c2, rfl, c4, c5⟩ := hc
    cases hbs : bytesOfCells l with
    | none => rw [hbs] at hv; cases hv
    | some bs =>
      rw [hbs] at hv
      cases hv
      cases hp
      rename_i b o hib L hρ
      cases hsp
      obtain ⟨ca, el, fz, q1, q2, q3, q4⟩ := readN_rel h hρ hl
      obtain ⟨ca2, fz2, r1, r2⟩ := h.cells hρ hb
      rw [q1] at r1
      cases r1
      obtain ⟨-, k3, k4, k5, k6, k7, k8, k9, k10⟩ := r2
      obtain ⟨heq, ns, hns, hns2⟩ := bytesOfCells_ok hbs q4
      obtain ⟨fz', hu'⟩ := upd_freeze (w := w) q1 o n.toNat
      have hres := h.set hρ (h.zfree E hb (by intro _ _ _ _ hh; cases hh)) (o2 := .cells cs e wsz true ex) hu' (by
        intro hi' L' e' o' ho' hsame hother
        obtain ⟨ca3, fz3, t1, t2⟩ := h.cells e' hb
        obtain ⟨-, n3, n4, n5, n6, n7, n8, n9, n10⟩ := t2
        by_cases hcc : L'.c = L.c
        · obtain rfl := hsame hcc
          rw [hcc, q1] at t1; cases t1
          exact ⟨rfl, n3, n4, n5, n6, n7, n8, (fun hh => by cases hh), n10⟩
        · have := hother hcc
          rw [t1] at this; cases this
          exact ⟨rfl, n3, n4, n5, n6, n7, n8, (fun hh => by cases hh), n10⟩)
      refine ⟨ρ, _, _, ?_, hres.1, hres.2, .string _⟩
      have hcells : P.cellsOf e = 1 := by
        unfold Env.size at c4
        cases ht : E.tt.get e with
        | none => rw [ht] at c4; cases c4
        | some i =>
          rw [ht] at c4
          simp only [Option.map_some, Option.some.injEq] at c4
          simp only [Program.cellsOf, ok.tt _ _ ht, Option.map_some, Option.getD_some, c4]
      have hva : (variablesAt ⟨L.c, o, none⟩ e n.toNat).run P w = .ok true w := by
        simp only [variablesAt, Sem.run_bind, run_program, Result.andThen_ok, run_shape, shape_of q1, Sem.run_pure]
        rw [hcells, Nat.div_one, lies_self hcells (by omega)]
      have hmax : ¬ (n > IntKind.i64.max) := by
        have : IntKind.i64.max = 9223372036854775807 := by decide
        omega
      have hneg : ¬ (n < 0) := by omega
      have hlb := run_loadBytes (P := P) q1 n.toNat o ByteArray.empty ns q2 (by rw [heq, hns])
      rw [foldl_push] at hlb
      rw [unsafeString_eq]
      simp only [asInt, asIntOf, Sem.run_bind, Sem.run_pure, Result.andThen_ok, hpt, hneg, hmax, hn0, if_false, elemOf, under_of ok hu, hva, if_true, hlb, run_freeze]
      rw [hns2]; rfl

theorem VRels.inv1 {v : Value} {l : List Value} (h : VRels ρ [v] l) : ∃ v', l = [v'] ∧ VRel ρ v v' := h.one

theorem builtinV_ok (ok : E.Ok P) (h : Rel E ρ s w) {b : Builtin} {argTypes : Array TypeId} {args args' : List Value} {a : ANext} (ty : TypeId) (consts : Array Bool) (ha : VRels ρ args args')
    (hb : builtinV E b argTypes args s = some a) : NextOk P E ρ s w ((builtin b argTypes ty consts args'.toArray).run P w) a := by
  have fromV : ∀ {x : Sem Value} {v : Value} {s' : St}, VOk P E ρ s w x v s' → NextOk P E ρ s w ((do pure (.value (← x)) : Sem Next).run P w) (.val v s') := by
    rintro x v s' ⟨ρ', w', v', h1, h2, h3, h4⟩
    exact ⟨ρ', w', v', by simp [h1], h2, h3, h4⟩
  unfold builtinV at hb
  split at hb
  · cases hq : appendV E s argTypes args with
    | none => rw [hq] at hb; cases hb
    | some p => obtain ⟨v, s'⟩ := p; rw [hq] at hb; cases hb; exact fromV (appendV_ok ok h ha ty hq)
  · cases hq : copyV E s argTypes args with
    | none => rw [hq] at hb; cases hb
    | some p => obtain ⟨v, s'⟩ := p; rw [hq] at hb; cases hb; exact fromV (copyV_ok ok h ha ty hq)
  · rename_i x
    obtain ⟨x', rfl, hx⟩ := ha.one
    cases hq : lenV E s argTypes[0]? x with
    | none => rw [hq] at hb; cases hb
    | some v => rw [hq] at hb; cases hb; obtain ⟨h1, h2⟩ := lenV_ok (P := P) (w := w) ok h hx ty hq; exact fromV (VOk.here h h1 h2)
  · rename_i x
    obtain ⟨x', rfl, hx⟩ := ha.one
    cases hq : capV E argTypes[0]? x with
    | none => rw [hq] at hb; cases hb
    | some v => rw [hq] at hb; cases hb; obtain ⟨h1, h2⟩ := capV_ok (P := P) (w := w) ok hx ty hq; exact fromV (VOk.here h h1 h2)
  · rename_i x xs
    cases ha with
    | cons hx hxs =>
      cases hq : xs.foldlM minV x with
      | none => rw [hq] at hb; cases hb
      | some v =>
        rw [hq] at hb; cases hb
        obtain ⟨v', h1, h2⟩ := fold_ok (P := P) (w := w) (g := Builtin.min2) minV_ok hxs hx hq
        exact fromV (VOk.here h (x := Builtin.min_ argTypes ty _) h1 h2)
  · rename_i x xs
    cases ha with
    | cons hx hxs =>
      cases hq : xs.foldlM maxV x with
      | none => rw [hq] at hb; cases hb
      | some v =>
        rw [hq] at hb; cases hb
        obtain ⟨v', h1, h2⟩ := fold_ok (P := P) (w := w) (g := Builtin.max2) maxV_ok hxs hx hq
        exact fromV (VOk.here h (x := Builtin.max_ argTypes ty _) h1 h2)
  · cases hb; exact rfl
  · cases hb
    obtain ⟨x', rfl, hx⟩ := ha.one
    cases hx
    exact fromV (VOk.here h (by rfl) .ptrNil)
  · rename_i a n c
    split at hb
    · rename_i hc0
      have hc : (c = 0 ∧ a.off < Addr.hi a ∧ (match s.h.get a.block with | some (.cells _ e _ _ _) => E.size e == some 1 | _ => false) = true) ∨ 1 < c := by
        simp only [byteRow, Bool.or_eq_true, Bool.and_eq_true, Nat.beq_eq, Nat.blt_eq] at hc0
        rcases hc0 with hc0 | ⟨⟨h1, h2⟩, h3⟩
        · exact .inr hc0
        · exact .inl ⟨h1, h2, h3⟩
      cases hb
      obtain ⟨x', rfl, hx⟩ := ha.one
      have hinv : ∃ b o hi L c', a = ⟨b, o, some hi⟩ ∧ ρ b hi = some L ∧ x' = .slice (some ⟨Loc.c L, o, none⟩) n c' ∧ c' ≠ 0 := by
        cases hx
        case slice => exact ⟨_, _, _, _, _, rfl, by assumption, rfl, by rcases hc with hc | hc <;> omega⟩
        case sliceOpen b o hi L c hρ hcc hee =>
          refine ⟨_, _, _, _, _, rfl, hρ, rfl, ?_⟩
          rcases hc with hc | hc
          · intro h0
            subst h0
            obtain ⟨oo, oo', t1, t2, t3⟩ := h.obj b hi L hρ
            have hlt : o < hi := hc.2.1
            have : hi ≤ L.sz := by
              cases oo <;> cases oo' <;> simp only [ORel] at t3 <;> first | exact t3.2.2.1 | (exfalso; omega) | skip
              all_goals (rename_i c1 c2; cases c1 <;> cases c2 <;> simp only at t3 <;> (exfalso; omega))
            omega
          · omega
        case sliceEnd b o hi o' L hρ hlt =>
          exfalso
          rcases hc with hc | hc
          · obtain ⟨-, hc1, hc2⟩ := hc
            split at hc2
            · rename_i cs e wsz frz ex hb'
              obtain ⟨ca, fz, t1, t2⟩ := h.cells hρ hb'
              have h1 : E.size e = some 1 := by simpa using hc2
              have : L.esz = 1 := by rw [t2.2.2.2.2.1, h1]; rfl
              have : o < hi := hc1
              omega
            · cases hc2
          · omega
        case sliceZero => exfalso; rcases hc with hc | hc <;> omega
      obtain ⟨b, o, hi, L, c', rfl, hρ, rfl, hne⟩ := hinv
      refine fromV (VOk.here h (v' := .pointer (some ⟨L.c, o, none⟩)) ?_ (.ptr hρ))
      show (Builtin.unsafeSliceData_ argTypes ty #[.slice (some ⟨L.c, o, none⟩) n c']).run P w = _
      rw [sliceData_eq]
      simp [hne]
    · cases hb
  · rename_i p k n
    split at hb
    · cases hb
    rename_i hpt
    cases hq : unsafeStringV E s argTypes[0]? p n with
    | none => rw [hq] at hb; cases hb
    | some q =>
      obtain ⟨v, s'⟩ := q
      rw [hq] at hb; cases hb
      obtain ⟨x', y', rfl, hx, hy⟩ := ha.two
      cases hy
      have hx' : ∃ p', x' = .pointer p' := by cases hx <;> exact ⟨_, rfl⟩
      obtain ⟨p', rfl⟩ := hx'
      exact fromV (unsafeStringV_ok ok h ty hx hq (Decidable.not_not.1 hpt))
  · cases hb
end
end Go.Eng

/- The abstract evaluator: all operations, together. -/
namespace Go.Eng
/-- An activation's temporaries and deferred calls. -/
structure FRel (ρ : Ren) (fr : Fr) (tmps : Array Value) (defers : List Deferred) : Prop where
  t : TRel ρ fr.t fr.n tmps
  d : DRels ρ fr.d defers
section
variable {P : Program} {E : Env} {ρ : Ren} {s : St} {w : World}

theorem FRel.mono {ρ ρ' : Ren} (le : ρ.le ρ') {fr : Fr} {tmps : Array Value} {defers : List Deferred} (h : FRel ρ fr tmps defers) : FRel ρ' fr tmps defers := ⟨h.t.mono le, h.d.mono le⟩

theorem eval_ok (h : Rel E ρ s w) {fr : Fr} {tmps : Array Value} (hf : TRel ρ fr.t fr.n tmps) {x : Operand} {v : Value} (hv : eval E fr x = some v) : VRel ρ v (cev tmps x) := by
  cases x with
  | tmp t => cases hv; exact hf.v t
  | const c =>
    simp only [eval] at hv
    split at hv
    · cases hv; exact VRel.of_flat ρ _ (by assumption)
    · cases hv
  | global g => exact h.glob g v hv
  | func f => cases hv; exact .func _ trivial .nil .nil
theorem evals_ok (h : Rel E ρ s w) {fr : Fr} {tmps : Array Value} (hf : TRel ρ fr.t fr.n tmps) : ∀ {xs : List Operand} {vs : List Value}, evals E fr xs = some vs → VRels ρ vs (xs.map (cev tmps))
  | [], vs, hv => by cases hv; exact .nil
  | x :: xs, vs, hv => by
    simp only [evals] at hv
    split at hv
    · rename_i v vs' h1 h2
      cases hv
      exact .cons (eval_ok h hf h1) (evals_ok h hf h2)
    · cases hv
theorem evalParts_ok (h : Rel E ρ s w) {fr : Fr} {tmps : Array Value} (hf : TRel ρ fr.t fr.n tmps) : ∀ {xs : List (Nat × Operand)} {vs : List (Nat × Value)}, evalParts E fr xs = some vs → PRels ρ vs (xs.map fun x => (x.1, cev tmps x.2))
  | [], vs, hv => by cases hv; exact .nil
  | (i, x) :: xs, vs, hv => by
    simp only [evalParts] at hv
    split at hv
    · rename_i v vs' h1 h2
      cases hv
      exact .cons (eval_ok h hf h1) (evalParts_ok h hf h2)
    · cases hv
theorem evalOpt_ok (h : Rel E ρ s w) {fr : Fr} {tmps : Array Value} (hf : TRel ρ fr.t fr.n tmps) {x : Option Operand} {v : Option Value} (hv : evalOpt E fr x = some v) : OVRel ρ v (x.map (cev tmps)) := by
  cases x with
  | none => cases hv; exact .none
  | some x =>
    simp only [evalOpt] at hv
    cases hx : eval E fr x with
    | none => rw [hx] at hv; cases hv
    | some u => rw [hx] at hv; cases hv; exact .some (eval_ok h hf hx)

theorem map_args {tmps : Array Value} (xs : Array Operand) : xs.map (cev tmps) = (xs.toList.map (cev tmps)).toArray := by apply Array.ext'; simp

theorem callO_ok (ok : E.Ok P) (h : Rel E ρ s w) {fr : Fr} {tmps : Array Value} (hf : TRel ρ fr.t fr.n tmps) {c : Call} {ty : TypeId} {a : ANext} (hc : callO E fr c s = some a) :
    NextOk P E ρ s w ((do let d ← resolve (cev tmps) c ty; invoke d.target d.args : Sem Next).run P w) a := by
  unfold callO at hc
  split at hc
  · cases hc
  rename_i args hargs
  have ha := evals_ok h hf hargs
  split at hc
  · rename_i b hcal
    have := builtinV_ok ok h ty (c.args.map fun | .const _ => true | _ => false) ha hc
    have e : (do let d ← resolve (cev tmps) c ty; invoke d.target d.args : Sem Next).run P w = (builtin b c.argTypes ty (c.args.map fun | .const _ => true | _ => false) (c.args.toList.map (cev tmps)).toArray).run P w := by
      simp only [resolve, hcal, Sem.run_bind, Sem.run_pure, Result.andThen_ok, invoke, map_args]
      rfl
    rw [e]; exact this
  · rename_i recv name hcal
    split at hc
    · rename_i r hr
      have hrr := eval_ok h hf hr
      have := callM_ok (P := P) ok h hrr ha hc
      have e : (do let d ← resolve (cev tmps) c ty; invoke d.target d.args : Sem Next).run P w = (callMethod (cev tmps recv) name (c.args.toList.map (cev tmps)).toArray).run P w := by
        have e1 : #[cev tmps recv] ++ (c.args.toList.map (cev tmps)).toArray = (cev tmps recv :: c.args.toList.map (cev tmps)).toArray := by apply Array.ext'; simp
        simp only [resolve, hcal, Sem.run_bind, Sem.run_pure, Result.andThen_ok, invoke, map_args, e1, array_first, extract_tail]
      rw [e]; exact this
    · cases hc
  · rename_i f hcal
    split at hc
    · rename_i fv hfv
      have hff := eval_ok h hf hfv
      have := callV_ok (P := P) ok h hff ha hc
      have e : (do let d ← resolve (cev tmps) c ty; invoke d.target d.args : Sem Next).run P w = (do let d ← Deferred.ofValue (cev tmps f) (c.args.toList.map (cev tmps)).toArray; invoke d.target d.args : Sem Next).run P w := by
        simp only [resolve, hcal, Sem.run_bind, map_args]
      rw [e]; exact this
    · cases hc

theorem eqGuard_run (op : BinOp) (t : TypeId) (x y : Operand) (a b : Value) (h1 : a = .nilIface → b = .nilIface → isConst x || isConst y) (h2 : ∀ xs ys, a = .agg xs → b = .agg ys → P.eqGuardType P.depth t = false) :
    (eqGuard op t x y a b).run P w = .ok () w := by
  have tail : ∀ op : BinOp, (op = .eql ∨ op = .neq) → (eqGuard op t x y a b).run P w = .ok () w := by
    intro op hop
    unfold eqGuard
    rw [if_neg (by rcases hop with rfl | rfl <;> decide)]
    split
    · have := h1 rfl rfl
      cases x <;> cases y <;> simp_all [isConst]
    · have := h2 _ _ rfl rfl
      simp [this]
    · rfl
  cases op <;> first | rfl | exact tail _ (.inl rfl) | exact tail _ (.inr rfl)

theorem binOp_eql (t : TypeId) (a b : Value) (h1 : ∀ j x k y, ¬ (a = .int j x ∧ b = .int k y)) (h2 : ∀ x y, ¬ (a = .string x ∧ b = .string y)) (h3 : ∀ k x, a ≠ .float k x) (h4 : ∀ k x y, a ≠ .complex k x y) :
    binOp .eql t a b = (do pure (.bool (← Op.equal t a b))) := by
  cases a <;> cases b <;> first | rfl | exact absurd rfl (h3 _ _) | exact absurd rfl (h4 _ _ _) | exact absurd ⟨rfl, rfl⟩ (h1 _ _ _ _) | exact absurd ⟨rfl, rfl⟩ (h2 _ _)
theorem binOp_neq (t : TypeId) (a b : Value) (h1 : ∀ j x k y, ¬ (a = .int j x ∧ b = .int k y)) (h2 : ∀ x y, ¬ (a = .string x ∧ b = .string y)) (h3 : ∀ k x, a ≠ .float k x) (h4 : ∀ k x y, a ≠ .complex k x y) :
    binOp .neq t a b = (do pure (.bool (!(← Op.equal t a b)))) := by
  cases a <;> cases b <;> first | rfl | exact absurd rfl (h3 _ _) | exact absurd rfl (h4 _ _ _) | exact absurd ⟨rfl, rfl⟩ (h1 _ _ _ _) | exact absurd ⟨rfl, rfl⟩ (h2 _ _)

theorem aeq_agg (ok : E.Ok P) {d : Nat} {t : TypeId} {xs ys : Array Value} {r : Bool} (h : aeqIn E d t (.agg xs) (.agg ys) = some r) : P.eqGuardType P.depth t = false := by
  cases d with
  | zero => simp [aeqIn] at h
  | succ d =>
    unfold aeqIn at h
    split at h <;> first | (cases h; done) | skip
    all_goals try (rename_i heq1 heq2; cases heq1; done)
    all_goals
      split at h
      · rename_i hk; exact (ok.eqok t hk).2
      · cases h

theorem binV_ok (ok : E.Ok P) (h : Rel E ρ s w) {op : BinOp} {t : TypeId} {x y : Operand} {a a' b b' v : Value} (ha : VRel ρ a a') (hb : VRel ρ b b') (hv : binV E (isConst x || isConst y) op t a b = some v) :
    ((do eqGuard op t x y a' b'; binOp op t a' b' : Sem Value).run P w = .ok v w) ∧ VRel ρ v v := by
  have fin : ∀ {r : Bool}, (∀ j m k n, ¬ (a = .int j m ∧ b = .int k n)) → (∀ m n, ¬ (a = .string m ∧ b = .string n)) → (a = .nilIface → b = .nilIface → (isConst x || isConst y) = true) → aeqIn E Op.maxDepth t a b = some r →
      ((do eqGuard .eql t x y a' b'; binOp .eql t a' b' : Sem Value).run P w = .ok (.bool r) w) ∧ ((do eqGuard .neq t x y a' b'; binOp .neq t a' b' : Sem Value).run P w = .ok (.bool !r) w) := by
    intro r h1 h2 h3 hr
    have hq := aeqIn_ok (P := P) ok h Op.maxDepth t hr ha hb
    have g1 : ∀ j m k n, ¬ (a' = .int j m ∧ b' = .int k n) := by
      rintro j m k n ⟨rfl, rfl⟩
      cases ha; cases hb
      exact h1 _ _ _ _ ⟨rfl, rfl⟩
    have g2 : ∀ m n, ¬ (a' = .string m ∧ b' = .string n) := by
      rintro m n ⟨rfl, rfl⟩
      cases ha; cases hb
      exact h2 _ _ ⟨rfl, rfl⟩
    have g3 : ∀ k m, a' ≠ .float k m := by rintro k m rfl; cases ha
    have g4 : ∀ k m n, a' ≠ .complex k m n := by rintro k m n rfl; cases ha
    have g5 : a' = .nilIface → b' = .nilIface → (isConst x || isConst y) = true := by
      rintro rfl rfl
      cases ha; cases hb
      exact h3 rfl rfl
    have g6 : ∀ xs ys, a' = .agg xs → b' = .agg ys → P.eqGuardType P.depth t = false := by
      rintro xs ys rfl rfl
      cases ha; cases hb
      exact aeq_agg ok hr
    constructor
    · rw [Sem.run_bind, eqGuard_run _ _ _ _ _ _ g5 g6, Result.andThen_ok, binOp_eql t a' b' g1 g2 g3 g4]
      simp only [Sem.run_bind, Op.equal, hq, Result.andThen_ok, Sem.run_pure]
    · rw [Sem.run_bind, eqGuard_run _ _ _ _ _ _ g5 g6, Result.andThen_ok, binOp_neq t a' b' g1 g2 g3 g4]
      simp only [Sem.run_bind, Op.equal, hq, Result.andThen_ok, Sem.run_pure]
  unfold binV at hv
  split at hv
  · rename_i j m k n
    cases ha; cases hb
    obtain ⟨h1, h2⟩ := numOp_run (P := P) (w := w) t hv
    refine ⟨?_, VRel.of_flat ρ _ h2⟩
    rw [Sem.run_bind, eqGuard_run _ _ _ _ _ _ (fun hh => by cases hh) (fun _ _ hh => by cases hh), Result.andThen_ok, h1]
  · rename_i m n
    cases ha; cases hb
    obtain ⟨h1, h2⟩ := strOp_run (P := P) (w := w) t hv
    refine ⟨?_, VRel.of_flat ρ _ h2⟩
    rw [Sem.run_bind, eqGuard_run _ _ _ _ _ _ (fun hh => by cases hh) (fun _ _ hh => by cases hh), Result.andThen_ok, h1]
  · split at hv
    · rename_i hl
      split at hv
      · cases hq : aeqIn E Op.maxDepth t .nilIface .nilIface with
        | none => rw [hq] at hv; cases hv
        | some r => rw [hq] at hv; cases hv; exact ⟨(fin (fun _ _ _ _ hh => by cases hh.1) (fun _ _ hh => by cases hh.1) (fun _ _ => hl) hq).1, .bool _⟩
      · cases hq : aeqIn E Op.maxDepth t .nilIface .nilIface with
        | none => rw [hq] at hv; cases hv
        | some r => rw [hq] at hv; cases hv; exact ⟨(fin (fun _ _ _ _ hh => by cases hh.1) (fun _ _ hh => by cases hh.1) (fun _ _ => hl) hq).2, .bool _⟩
      · cases hv
    · cases hv
  · rename_i n1 n2 n3
    split at hv
    · cases hq : aeqIn E Op.maxDepth t a b with
      | none => rw [hq] at hv; cases hv
      | some r => rw [hq] at hv; cases hv; exact ⟨(fin (fun _ _ _ _ hh => n1 _ _ _ _ hh.1 hh.2) (fun _ _ hh => n2 _ _ hh.1 hh.2) (fun h1 h2 => (n3 h1 h2).elim) hq).1, .bool _⟩
    · cases hq : aeqIn E Op.maxDepth t a b with
      | none => rw [hq] at hv; cases hv
      | some r => rw [hq] at hv; cases hv; exact ⟨(fin (fun _ _ _ _ hh => n1 _ _ _ _ hh.1 hh.2) (fun _ _ hh => n2 _ _ hh.1 hh.2) (fun h1 h2 => (n3 h1 h2).elim) hq).2, .bool _⟩
    · cases hv
end
end Go.Eng

/- The abstract evaluator: all operations, together. -/
namespace Go.Eng
section
variable {P : Program} {E : Env} {ρ : Ren} {s : St} {w : World}

theorem VOk.next {x : Sem Value} {v : Value} {s' : St} (h : VOk P E ρ s w x v s') : NextOk P E ρ s w ((do pure (.value (← x)) : Sem Next).run P w) (.val v s') := by
  obtain ⟨ρ', w', v', h1, h2, h3, h4⟩ := h
  exact ⟨ρ', w', v', by simp [h1], h2, h3, h4⟩
theorem next_here (h : Rel E ρ s w) {x : Sem Value} {v : Value} (hx : ∃ v', x.run P w = .ok v' w ∧ VRel ρ v v') : NextOk P E ρ s w ((do pure (.value (← x)) : Sem Next).run P w) (.val v s) := by
  obtain ⟨v', h1, h2⟩ := hx
  exact (VOk.here h h1 h2).next
theorem next_same (h : Rel E ρ s w) {x : Sem Value} {v : Value} (hx : x.run P w = .ok v w ∧ VRel ρ v v) : NextOk P E ρ s w ((do pure (.value (← x)) : Sem Next).run P w) (.val v s) :=
  next_here h ⟨v, hx⟩
theorem SOk.next {x : Sem Unit} {s' : St} (h : SOk P E ρ s w x s') : NextOk P E ρ s w ((do x; pure .skip : Sem Next).run P w) (.skip s') := by
  obtain ⟨ρ', w', h1, h2, h3⟩ := h
  exact ⟨ρ', w', by simp [h1], h2, h3⟩

theorem one_some {E : Env} {fr : Fr} {x : Operand} {f : Value → Option ANext} {a : ANext} (h : (match eval E fr x with | some v => f v | none => none) = some a) : ∃ v, eval E fr x = some v ∧ f v = some a := by
  cases hx : eval E fr x with
  | none => rw [hx] at h; cases h
  | some v => rw [hx] at h; exact ⟨v, rfl, h⟩
theorem v_some {r : Option Value} {s : St} {a : ANext} (h : (match r with | some v => some (.val v s) | none => none : Option ANext) = some a) : ∃ v, r = some v ∧ a = .val v s := by
  cases r with
  | none => cases h
  | some v => cases h; exact ⟨v, rfl, rfl⟩
theorem vs_some {r : Option (Value × St)} {a : ANext} (h : (match r with | some (v, s) => some (.val v s) | none => none : Option ANext) = some a) : ∃ v s', r = some (v, s') ∧ a = .val v s' := by
  cases r with
  | none => cases h
  | some p => obtain ⟨v, s'⟩ := p; cases h; exact ⟨v, s', rfl, rfl⟩

set_option maxHeartbeats 4000000 in
/-- AN OPERATION. -/
theorem evalOp_ok (ok : E.Ok P) (h : Rel E ρ s w) {fr : Fr} {tmps : Array Value} (hf : TRel ρ fr.t fr.n tmps) {o : Oper} {a : ANext} (hv : evalOp E fr o s = some a) :
    NextOk P E ρ s w ((execOp (cev tmps) o).run P w) a := by
  have ev := fun {x v} => eval_ok (x := x) (v := v) h hf
  obtain ⟨dst, op, ty, pos, aft, guard⟩ := o
  cases op <;> simp only [evalOp] at hv
  case move x =>
    obtain ⟨v, h1, h2⟩ := one_some hv
    cases h2
    exact ⟨ρ, w, _, rfl, h, Ev.refl _ _ _, ev h1⟩
  case assign x =>
    obtain ⟨v, h1, h2⟩ := one_some hv
    cases h2
    exact ⟨ρ, w, _, rfl, h, Ev.refl _ _ _, ev h1⟩
  case pick c x y =>
    obtain ⟨v, h1, h2⟩ := one_some hv
    have hc := ev h1
    split at h2
    · obtain ⟨u, h3, h4⟩ := one_some h2
      cases h4
      have hcc : cev tmps c = .bool true := by generalize cev tmps c = q at hc; cases hc; rfl
      refine ⟨ρ, w, _, ?_, h, Ev.refl _ _ _, ev h3⟩
      simp [execOp, hcc, asBool]
    · obtain ⟨u, h3, h4⟩ := one_some h2
      cases h4
      have hcc : cev tmps c = .bool false := by generalize cev tmps c = q at hc; cases hc; rfl
      refine ⟨ρ, w, _, ?_, h, Ev.refl _ _ _, ev h3⟩
      simp [execOp, hcc, asBool]
    · cases h2
  case alloc elem =>
    split at hv
    · rename_i z hz
      cases hv
      obtain ⟨hz1, hz2⟩ := zero_of (w := w) ok hz
      obtain ⟨ρ', r1, r2, r3, L, r4, r5, -⟩ := oneRow_ok (P := P) (el := elem) (cs := z.cells.toList) (ca := z.cells.toList) h true (by rw [List.take_of_length_le (Nat.le_refl _)]; exact zero_cells hz) (fun _ => rfl)
      have r1' : (newRow elem z.cells).run P w = _ := r1
      refine VOk.next (x := Instr.alloc elem true (.tuple #[])) ⟨ρ', _, .pointer (some ⟨w.heap.size, 0, none⟩), ?_, r2, r3, r5 ▸ .ptr r4⟩
      simp only [Instr.alloc, Sem.run_bind, hz1, Result.andThen_ok, newVar, r1', Sem.run_pure]
    · cases hv
  case box elem x =>
    obtain ⟨v, h1, h2⟩ := one_some hv
    cases h2
    have hx := (ev h1).cells'
    obtain ⟨ρ', r1, r2, r3, L, r4, r5, -⟩ := oneRow_ok (P := P) (el := elem) (cs := v.cells.toList) (ca := (cev tmps x).cells.toList) h true (by rw [List.take_of_length_le (by rw [hx.length_eq]; exact Nat.le_refl _)]; exact hx) (fun _ => hx.length_eq.symm)
    have r1' : (newRow elem (cev tmps x).cells).run P w = _ := r1
    refine VOk.next (x := Instr.box elem (cev tmps x)) ⟨ρ', _, .pointer (some ⟨w.heap.size, 0, none⟩), ?_, r2, r3, r5 ▸ .ptr r4⟩
    simp only [Instr.box, Sem.run_bind, newVar, r1', Result.andThen_ok, Sem.run_pure]
  case build t parts =>
    split at hv
    · rename_i ps hps
      obtain ⟨v, h1, rfl⟩ := v_some hv
      have hp := evalParts_ok h hf hps
      have := buildV_ok (P := P) (w := w) ok hp h1
      have e : parts.map (fun (i, x) => (i, cev tmps x)) = (parts.toList.map fun x => (x.1, cev tmps x.2)).toArray := by apply Array.ext'; simp
      refine next_here (x := Instr.build t (parts.map fun (i, x) => (i, cev tmps x))) h ?_
      rw [e]; exact this
    · cases hv
  case buildSlice t len parts =>
    split at hv
    · rename_i ps hps
      obtain ⟨v, s', h1, rfl⟩ := vs_some hv
      have hp := evalParts_ok h hf hps
      have := buildSliceV_ok (P := P) ok h hp h1
      have e : parts.map (fun (i, x) => (i, cev tmps x)) = (parts.toList.map fun x => (x.1, cev tmps x.2)).toArray := by apply Array.ext'; simp
      refine VOk.next (x := Instr.buildSlice t len (parts.map fun (i, x) => (i, cev tmps x))) ?_
      rw [e]; exact this
    · cases hv
  case insert t m k x =>
    obtain ⟨vm, h1, h2⟩ := one_some hv
    obtain ⟨vk, h3, h4⟩ := one_some h2
    obtain ⟨vx, h5, h6⟩ := one_some h4
    split at h6
    · rename_i s' hs
      cases h6
      exact (mapPut_ok ok h (ev h1) (ev h3) (ev h5) hs).next
    · cases h6
  case load t x =>
    obtain ⟨v, h1, h2⟩ := one_some hv
    have hx := ev h1
    split at h2
    · rename_i ad
      obtain ⟨u, h3, rfl⟩ := v_some h2
      generalize hq : cev tmps x = q at hx
      cases hx
      rename_i b o hi L hρ
      obtain ⟨v', h4, h5⟩ := loadV_ok (P := P) ok h hρ h3
      refine next_here (x := Instr.loadAt t (cev tmps x)) h ⟨v', ?_, h5⟩
      simp only [Instr.loadAt, hq, Instr.sureAddr, Sem.run_bind, Sem.run_pure, Result.andThen_ok, h4]
    · cases h2
  case store t x y =>
    obtain ⟨v, h1, h2⟩ := one_some hv
    have hx := ev h1
    split at h2
    · rename_i ad
      obtain ⟨u, h3, h4⟩ := one_some h2
      split at h4
      · rename_i s' hs
        cases h4
        generalize hq : cev tmps x = q at hx
        cases hx
        rename_i b o hi L hρ
        obtain ⟨w', h5, h6, h7⟩ := storeV_ok (P := P) ok h hρ (ev h3) hs
        refine SOk.next (x := Instr.storeAt t (cev tmps x) (cev tmps y)) ⟨ρ, w', ?_, h6, h7⟩
        simp only [Instr.storeAt, hq, Instr.sureAddr, Sem.run_bind, Sem.run_pure, Result.andThen_ok, h5]
      · cases h4
    · cases h2
  case nilCheck x =>
    obtain ⟨v, h1, h2⟩ := one_some hv
    have hx := ev h1
    split at h2
    · cases h2
    · cases h2
    · cases h2
    · cases h2
    · rename_i n1 n2 n3 n4
      cases h2
      refine ⟨ρ, w, cev tmps x, ?_, h, Ev.refl _ _ _, hx⟩
      simp only [execOp]
      generalize hq : cev tmps x = q at hx
      cases hx <;> first | rfl | exact absurd rfl n1 | exact absurd rfl n2 | exact absurd rfl n3 | skip
      rename_i fn f f' c c' hn _ _
      cases fn <;> first | rfl | exact absurd rfl (n4 _ _ _)
  case binOp bop t x y ty2 =>
    obtain ⟨va, h1, h2⟩ := one_some hv
    obtain ⟨vb, h3, h4⟩ := one_some h2
    obtain ⟨u, h5, rfl⟩ := v_some h4
    exact next_same h (binV_ok ok h (ev h1) (ev h3) h5)
  case unOp uop t x =>
    obtain ⟨va, h1, h2⟩ := one_some hv
    obtain ⟨u, h3, rfl⟩ := v_some h2
    have hx := ev h1
    have hsame : cev tmps x = va := by
      generalize cev tmps x = q at hx
      unfold unV at h3
      split at h3
      · cases hx; rfl
      · cases hx; rfl
      · cases hx; rfl
      · cases h3
    obtain ⟨q1, q2⟩ := unV_run (P := P) (w := w) h3
    refine next_same (x := Op.unary uop (cev tmps x)) h ⟨?_, VRel.of_flat ρ _ q2⟩
    rw [hsame]; exact q1
  case convert src d x =>
    obtain ⟨va, h1, h2⟩ := one_some hv
    obtain ⟨u, s', h3, rfl⟩ := vs_some h2
    exact (convV_ok ok h (ev h1) h3).next
  case makeInterface t x =>
    obtain ⟨va, h1, h2⟩ := one_some hv
    split at h2
    · cases h2
    · cases h2
    · rename_i d n1 hu
      cases h2
      refine next_here (x := Instr.makeInterface t (cev tmps x)) h ⟨.iface t (cev tmps x), ?_, .iface t (ev h1)⟩
      simp only [Instr.makeInterface, Sem.run_bind, under_of ok hu, Result.andThen_ok]
      cases d <;> first | rfl | exact absurd hu (by simpa using n1)
  case makeFunc fn first captured =>
    split at hv
    · cases hv
    rename_i n1
    split at hv
    · rename_i fs cs h1 h2
      cases hv
      refine ⟨ρ, w, .func fn (first.map (cev tmps)) (captured.map (cev tmps)), ?_, h, Ev.refl _ _ _, ?_⟩
      · simp [execOp, Instr.makeFunc]
      · have e1 := evals_ok h hf h1
        have e2 := evals_ok h hf h2
        refine .func fn ?_ (by simpa using e1) (by simpa using e2)
        cases fn <;> first | trivial | exact absurd rfl n1
    · cases hv
  case makeMap t r =>
    cases r with
    | some r => simp at hv
    | none =>
      cases hv
      obtain ⟨ρ', q1, q2, L, q3, q4⟩ := it_alloc h (.map [] 0) (.map #[] 0) (fun ρ' _ => ⟨rfl, rfl, .nil⟩)
      refine VOk.next (x := Instr.makeMap t (Option.map (cev tmps) none)) ⟨ρ', _, .map (some w.heap.size), ?_, q1, q2, q4 ▸ .map q3⟩
      simp [Instr.makeMap]
  case makeSlice t l c =>
    obtain ⟨va, h1, h2⟩ := one_some hv
    obtain ⟨vb, h3, h4⟩ := one_some h2
    obtain ⟨u, s', h5, rfl⟩ := vs_some h4
    exact (makeSliceV_ok ok h (ev h1) (ev h3) h5).next
  case slice t x lo hi mx =>
    obtain ⟨va, h1, h2⟩ := one_some hv
    split at h2
    · rename_i vlo vhi vmx e1 e2 e3
      obtain ⟨u, h3, rfl⟩ := v_some h2
      exact next_here h (sliceV_ok ok h (ev h1) (evalOpt_ok h hf e1) (evalOpt_ok h hf e2) (evalOpt_ok h hf e3) h3)
    · cases h2
  case fieldAddr t x f =>
    obtain ⟨va, h1, h2⟩ := one_some hv
    obtain ⟨u, h3, rfl⟩ := v_some h2
    exact next_here h (fieldAddrV_ok ok (ev h1) h3)
  case field t x f =>
    obtain ⟨va, h1, h2⟩ := one_some hv
    obtain ⟨u, h3, rfl⟩ := v_some h2
    exact next_here h (fieldV_ok ok (ev h1) h3)
  case indexAddr t x i =>
    obtain ⟨va, h1, h2⟩ := one_some hv
    obtain ⟨vb, h3, h4⟩ := one_some h2
    obtain ⟨u, h5, rfl⟩ := v_some h4
    exact next_here h (indexAddrV_ok ok (ev h1) (ev h3) h5)
  case index t x i =>
    obtain ⟨va, h1, h2⟩ := one_some hv
    obtain ⟨vb, h3, h4⟩ := one_some h2
    obtain ⟨u, h5, rfl⟩ := v_some h4
    exact next_here h (indexV_ok ok (ev h1) (ev h3) h5)
  case lookup t x k b =>
    obtain ⟨va, h1, h2⟩ := one_some hv
    obtain ⟨vb, h3, h4⟩ := one_some h2
    obtain ⟨u, h5, rfl⟩ := v_some h4
    exact next_here h (lookupV_ok ok h (ev h1) (ev h3) h5)
  case mapUpdate t m k x =>
    obtain ⟨vm, h1, h2⟩ := one_some hv
    obtain ⟨vk, h3, h4⟩ := one_some h2
    obtain ⟨vx, h5, h6⟩ := one_some h4
    split at h6
    · rename_i s' hs
      cases h6
      exact (mapPut_ok ok h (ev h1) (ev h3) (ev h5) hs).next
    · cases h6
  case range t x =>
    obtain ⟨va, h1, h2⟩ := one_some hv
    obtain ⟨u, s', h3, rfl⟩ := vs_some h2
    exact (rangeV_ok ok h (ev h1) h3).next
  case next it b =>
    obtain ⟨va, h1, h2⟩ := one_some hv
    obtain ⟨u, s', h3, rfl⟩ := vs_some h2
    exact (nextV_ok h (ev h1) ty h3).next
  case typeAssert x t asserted b =>
    obtain ⟨va, h1, h2⟩ := one_some hv
    obtain ⟨u, h3, rfl⟩ := v_some h2
    exact next_here h (assertV_ok ok (ev h1) h3)
  case extract t i =>
    obtain ⟨va, h1, h2⟩ := one_some hv
    have hx := ev h1
    split at h2
    · rename_i vs
      obtain ⟨u, h3, rfl⟩ := v_some h2
      generalize hq : cev tmps t = q at hx
      cases hx
      rename_i vs' hvs
      obtain ⟨u', h4, h5⟩ := hvs.get i u h3
      refine next_here (x := Instr.extract (cev tmps t) i) h ⟨u', ?_, h5⟩
      rw [Array.getElem?_toList] at h4
      simp [Instr.extract, hq, h4]
    · cases h2
  case call c => exact callO_ok ok h hf hv
  case defer c =>
    split at hv
    · rename_i f args hcal hargs
      obtain ⟨fv, h1, h2⟩ := one_some hv
      have hx := ev h1
      have ha := evals_ok h hf hargs
      split at h2
      · cases h2
      · rename_i fn first captured n1
        cases h2
        generalize hq : cev tmps f = q at hx
        cases hx
        · rename_i f' c' hn h3 h4
          refine ⟨{ target := .fn fn c', args := f' ++ c.args.map (cev tmps) }, ?_, .fn fn hn h4 ?_⟩
          · simp [execOp, resolve, hcal, hq, Deferred.ofValue]
          · simpa using h3.append ha
        · exact (n1 _ rfl).elim
      · cases h2
    · cases hv
  case panic x =>
    obtain ⟨va, h1, h2⟩ := one_some hv
    have hx := ev h1
    split at h2
    · rename_i t u
      cases h2
      generalize hq : cev tmps x = q at hx
      cases hx
      rename_i u' hu
      refine ⟨.iface t u', ?_, .iface t hu⟩
      simp [execOp, Instr.panic, hq]
    · cases h2
  all_goals cases hv
end
end Go.Eng
