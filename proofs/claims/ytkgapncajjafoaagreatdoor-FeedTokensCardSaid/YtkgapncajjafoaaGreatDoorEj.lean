/- The abstract evaluator of the model, part j: definitions and laws, of no program. -/
import Derived.Test.YtkgapncajjafoaaGreatDoorEi
import Derived.Lib.MakeNoZero
import Derived.Lib.Bytealg
import Derived.Lib.BytesEntry
import Derived.Laws.Externs
set_option linter.all false
/- The abstract evaluator: a call that was evaluated apart, laid over another state. -/
namespace Go.Eng

/-! ### what values refer to -/
mutual
def vin (k : Nat → Bool) : Value → Bool
  | .pointer (some a) => k a.block
  | .slice (some a) _ _ => k a.block
  | .map (some b) => k b
  | .func (.yield l) ⟨f⟩ ⟨c⟩ => k l && vins k f && vins k c
  | .func _ ⟨f⟩ ⟨c⟩ => vins k f && vins k c
  | .iface _ v => vin k v
  | .agg ⟨a⟩ => vins k a
  | .tuple ⟨a⟩ => vins k a
  | _ => true
def vins (k : Nat → Bool) : List Value → Bool
  | [] => true
  | v :: vs => vin k v && vins k vs
end
def oin (k : Nat → Bool) : AObj → Bool
  | .cells cs _ _ _ _ => vins k cs
  | .siter _ _ => true
  | _ => false
def rin (k : Nat → Bool) : Raw → Bool
  | .obj o => oin k o
  | .bytes .. => true
theorem vins_bytes (k : Nat → Bool) : ∀ (n len : Nat), vins k (bytesL n len) = true
  | _, 0 => by simp [bytesL, vins]
  | n, len + 1 => by simp [bytesL, vins, vin, vins_bytes k (n / 256) len]
theorem rin_norm {k : Nat → Bool} {r : Raw} (h : rin k r = true) : oin k r.norm = true := by
  cases r with
  | obj o => exact h
  | bytes n len e w z x => exact vins_bytes k n len
theorem vins_take {k : Nat → Bool} : ∀ (n : Nat) {l : List Value}, vins k l = true → vins k (l.take n) = true
  | 0, _, _ => by simp [vins]
  | n + 1, [], _ => by simp [vins]
  | n + 1, v :: l, h => by
    simp only [vins, Bool.and_eq_true] at h
    simp only [List.take_succ_cons, vins, Bool.and_eq_true]
    exact ⟨h.1, vins_take n h.2⟩

section
variable {ρ σ : Ren} {k : Nat → Bool} (ag : ∀ b hi L, k b = true → ρ b hi = some L → σ b hi = some L)
include ag
mutual
theorem VRel.agree : ∀ {v v' : Value}, VRel ρ v v' → vin k v = true → VRel σ v v'
  | _, _, .bool b, _ => .bool b
  | _, _, .int k n, _ => .int k n
  | _, _, .string s, _ => .string s
  | _, _, .nilFunc, _ => .nilFunc
  | _, _, .nilIface, _ => .nilIface
  | _, _, .ptrNil, _ => .ptrNil
  | _, _, .mapNil, _ => .mapNil
  | _, _, .sliceNil n c, _ => .sliceNil n c
  | _, _, .ptr h, hk => .ptr (ag _ _ _ (by simpa only [vin] using hk) h)
  | _, _, .slice n c h, hk => .slice n c (ag _ _ _ (by simpa only [vin] using hk) h)
  | _, _, .sliceOpen n c h hc he, hk => .sliceOpen n c (ag _ _ _ (by simpa only [vin] using hk) h) hc he
  | _, _, .sliceEnd h hlt, hk => .sliceEnd (ag _ _ _ (by simpa only [vin] using hk) h) hlt
  | _, _, .sliceZero h, hk => .sliceZero (ag _ _ _ (by simpa only [vin] using hk) h)
  | _, _, .map h, hk => .map (ag _ _ _ (by simpa only [vin] using hk) h)
  | _, _, .func (f := ⟨f⟩) (c := ⟨c⟩) fn hn hf hc, hk => by
    have hk' : vins k f = true ∧ vins k c = true := by
      cases fn <;> simp only [vin, Bool.and_eq_true] at hk <;> first | exact hk | exact hn.elim
    exact .func fn hn (VRels.agree hf hk'.1) (VRels.agree hc hk'.2)
  | _, _, .yield (f := ⟨f⟩) (c := ⟨c⟩) h hf hc, hk => by
    simp only [vin, Bool.and_eq_true] at hk
    exact .yield (ag _ _ _ hk.1.1 h) (VRels.agree hf hk.1.2) (VRels.agree hc hk.2)
  | _, _, .iface t h, hk => .iface t (VRel.agree h (by simpa only [vin] using hk))
  | _, _, .agg (a := ⟨a⟩) h, hk => .agg (VRels.agree h (by simpa only [vin] using hk))
  | _, _, .tuple (a := ⟨a⟩) h, hk => .tuple (VRels.agree h (by simpa only [vin] using hk))
theorem VRels.agree : ∀ {l l' : List Value}, VRels ρ l l' → vins k l = true → VRels σ l l'
  | _, _, .nil, _ => .nil
  | _, _, .cons h hs, hk => by
    simp only [vins, Bool.and_eq_true] at hk
    exact .cons (VRel.agree h hk.1) (VRels.agree hs hk.2)
end
theorem ORel.agree {E : Env} {hi : Nat} {L : Loc} {o : AObj} {o' : Obj} (h : ORel E ρ hi L o o') (hk : oin k o = true) : ORel E σ hi L o o' := by
  cases o <;> cases o' <;> simp only [ORel] at h ⊢ <;> simp only [oin] at hk <;> first | contradiction | skip
  case cells.cells =>
    obtain ⟨h1, h2, h3, h4, h5, h6, h7, h8, h9⟩ := h
    exact ⟨h1, h2, h3, h4, h5, h6, fun hw => VRels.agree ag (h7 hw) (vins_take _ hk), h8, h9⟩
  case siter.stringIter => exact h
end

/-! ### laid over -/
section
variable {P : Program} {E : Env}
def Ren.on (ρ : Ren) (k : Nat → Bool) : Ren := fun b hi => if k b = true then ρ b hi else none
theorem Ren.on_some {ρ : Ren} {k : Nat → Bool} {b hi : Nat} {L : Loc} : ρ.on k b hi = some L ↔ k b = true ∧ ρ b hi = some L := by
  unfold Ren.on
  split
  · rename_i h; simp [h]
  · rename_i h; simp [h]
theorem Rel.on {ρ : Ren} {s sa : St} {w : World} (h : Rel E ρ s w) {k : Nat → Bool} (hg : ∀ g v, E.glob g = some v → vin k v = true)
    (hcl : ∀ b o, k b = true → sa.h.get b = some o → oin k o = true) (hget : ∀ b, k b = true → s.h.get b = sa.h.get b) (hnx : s.nx = sa.nx) : Rel E (ρ.on k) sa w where
  glob := fun g v hv => VRel.agree (fun b hi L hk e => Ren.on_some.2 ⟨hk, e⟩) (h.glob g v hv) (hg g v hv)
  fresh := fun b hi hb => by
    have := h.fresh b hi (hnx ▸ hb)
    unfold Ren.on; split
    · exact this
    · rfl
  own := fun b hi L b' hi' L' e e' hc => h.own b hi L b' hi' L' (Ren.on_some.1 e).2 (Ren.on_some.1 e').2 hc
  obj := fun b hi L e => by
    obtain ⟨hk, e⟩ := Ren.on_some.1 e
    obtain ⟨o, o', h1, h2, h3⟩ := h.obj b hi L e
    rw [hget b hk] at h1
    exact ⟨o, o', h1, h2, h3.agree (fun b hi L hk e => Ren.on_some.2 ⟨hk, e⟩) (hcl b o hk h1)⟩
  ro := fun b hi L q e hq => by
    obtain ⟨hk, e⟩ := Ren.on_some.1 e
    have := h.ro b hi L q e hq
    rwa [hget b hk] at this

theorem overlay {f : FuncId} {args : List Value} {sa sb s s' : St} {v : Value} {keep live : Nat → Bool} (hc : CallOk P E (.enter f args) sa (.ret v, sb))
    (hg : ∀ g v, E.glob g = some v → vin keep v = true) (hcl : ∀ b o, keep b = true → sa.h.get b = some o → oin keep o = true) (hargs : vins keep args = true)
    (hkl : ∀ b, keep b = true → live b = true) (hcl2 : ∀ b o, live b = true → sb.h.get b = some o → oin live o = true) (hv : vin live v = true)
    (hold : ∀ b, live b = true → keep b = true ∨ sa.nx ≤ b)
    (hnx : s.nx = sa.nx) (hget : ∀ b, keep b = true → s.h.get b = sa.h.get b)
    (hnx' : s'.nx = sb.nx) (hget1 : ∀ b, live b = true → s'.h.get b = sb.h.get b) (hget2 : ∀ b, live b = false → s'.h.get b = s.h.get b) :
    ∀ ρ w args' c cs, Rel E ρ s w → VRels ρ args args' → ∃ ρ' w', Rel E ρ' s' w' ∧ Ev ρ s w ρ' s' w' ∧ Gives P ρ' (lone (Frame.enter P f args'.toArray .normal) (c :: cs) w) .normal c cs w' (.ret v) := by
  intro ρ w args' c cs h ha
  have hra := h.on hg hcl hget hnx
  have haa : VRels (ρ.on keep) args args' := VRels.agree (fun b hi L hk e => Ren.on_some.2 ⟨hk, e⟩) ha hargs
  obtain ⟨ρb, w', q1, q2, v', q3, q4⟩ := hc (ρ.on keep) w args' .normal c cs hra haa (.inl rfl) (.inl rfl)
  have q1 : Rel E ρb sb w' := q1
  have q2 : Ev (ρ.on keep) sa w ρb sb w' := q2
  have hlk : ∀ b, b < s.nx → live b = true → keep b = true := by
    intro b hb hl
    rcases hold b hl with h1 | h1
    · exact h1
    · omega
  let ρ' : Ren := fun b hi => if live b = true then ρb b hi else if b < s.nx then ρ b hi else none
  have hlive : ∀ b hi, live b = true → ρ' b hi = ρb b hi := fun b hi hl => by simp only [ρ', if_pos hl]
  have hdead : ∀ b hi, live b = false → ρ' b hi = if b < s.nx then ρ b hi else none := fun b hi hl => by
    have : ¬ live b = true := by rw [hl]; exact Bool.false_ne_true
    simp only [ρ', if_neg this]
  have le : ρ.le ρ' := by
    intro b hi L e
    have hb := h.lt E e
    cases hl : live b with
    | true => rw [hlive b hi hl]; exact q2.le _ _ _ (Ren.on_some.2 ⟨hlk b hb hl, e⟩)
    | false => rw [hdead b hi hl, if_pos hb]; exact e
  have agb : ∀ b hi L, live b = true → ρb b hi = some L → ρ' b hi = some L := fun b hi L hl e => by rw [hlive b hi hl]; exact e
  have hof : ∀ b hi L, ρ' b hi = some L → (live b = true ∧ ρb b hi = some L) ∨ (live b = false ∧ b < s.nx ∧ ρ b hi = some L) := by
    intro b hi L e
    cases hl : live b with
    | true => rw [hlive b hi hl] at e; exact .inl ⟨rfl, e⟩
    | false =>
      rw [hdead b hi hl] at e
      split at e
      · rename_i hb; exact .inr ⟨rfl, hb, e⟩
      · cases e
  have mixed : ∀ b hi L b' hi' L', live b = true → ρb b hi = some L → live b' = false → ρ b' hi' = some L' → L.c = L'.c → False := by
    intro b hi L b' hi' L' hl e hl' e' hcc
    rcases q2.range b hi L e with h1 | ⟨hi0, L0, h1, h2⟩
    · have := h.clt E e'; omega
    · obtain ⟨hk, h3⟩ := Ren.on_some.1 h1
      have := h.own b hi0 L0 b' hi' L' h3 e' (h2.trans hcc)
      subst this
      rw [hkl b hk] at hl'; cases hl'
  refine ⟨ρ', w', ⟨fun g v hv => (h.glob g v hv).mono le, ?_, ?_, ?_, ?_⟩, ⟨le, ?_, ?_, ?_, q2.os, q2.tape, q2.output, q2.size, ?_⟩, v', q3.agree agb hv, q4⟩
  · intro b hi hb
    rw [hnx'] at hb
    cases hl : live b with
    | true => rw [hlive b hi hl]; exact q1.fresh b hi hb
    | false =>
      have := q2.nx
      rw [hdead b hi hl, if_neg (by omega)]
  · intro b hi L b' hi' L' e e' hcc
    rcases hof _ _ _ e with ⟨hl, e⟩ | ⟨hl, hb, e⟩ <;> rcases hof _ _ _ e' with ⟨hl', e'⟩ | ⟨hl', hb', e'⟩
    · exact q1.own _ _ _ _ _ _ e e' hcc
    · exact (mixed _ _ _ _ _ _ hl e hl' e' hcc).elim
    · exact (mixed _ _ _ _ _ _ hl' e' hl e hcc.symm).elim
    · exact h.own _ _ _ _ _ _ e e' hcc
  · intro b hi L e
    rcases hof _ _ _ e with ⟨hl, e⟩ | ⟨hl, hb, e⟩
    · obtain ⟨o, o', h1, h2, h3⟩ := q1.obj b hi L e
      exact ⟨o, o', by rw [hget1 b hl]; exact h1, h2, h3.agree agb (hcl2 b o hl h1)⟩
    · obtain ⟨o, o', h1, h2, h3⟩ := h.obj b hi L e
      refine ⟨o, o', by rw [hget2 b hl]; exact h1, ?_, h3.mono E le⟩
      rw [q2.keep L.c (h.clt E e) ?_]; exact h2
      intro b0 hi0 L0 e0 hcc
      obtain ⟨hk, e0⟩ := Ren.on_some.1 e0
      have := h.own _ _ _ _ _ _ e0 e hcc
      subst this
      rw [hkl b0 hk] at hl; cases hl
  · intro b hi L q e hq
    rcases hof _ _ _ e with ⟨hl, e⟩ | ⟨hl, hb, e⟩
    · have := q1.ro b hi L q e hq
      rwa [← hget1 b hl] at this
    · obtain ⟨h1, ca, e1, h2⟩ := h.ro b hi L q e hq
      refine ⟨by rwa [← hget2 b hl] at h1, ca, e1, ?_⟩
      rw [q2.keep L.c (h.clt E e) ?_]; exact h2
      intro b0 hi0 L0 e0 hcc
      obtain ⟨hk, e0⟩ := Ren.on_some.1 e0
      have := h.own _ _ _ _ _ _ e0 e hcc
      subst this
      rw [hkl b0 hk] at hl; cases hl
  · intro b hb hn hi
    cases hl : live b with
    | true =>
      rw [hlive b hi hl]
      refine q2.stays b (by omega) (fun hi => ?_) hi
      unfold Ren.on; split
      · exact hn hi
      · rfl
    | false => rw [hdead b hi hl, if_pos hb]; exact hn hi
  · intro b hi L e
    rcases hof _ _ _ e with ⟨hl, e⟩ | ⟨hl, hb, e⟩
    · rcases q2.range b hi L e with h1 | ⟨hi0, L0, h1, h2⟩
      · exact .inl h1
      · exact .inr ⟨hi0, L0, (Ren.on_some.1 h1).2, h2⟩
    · exact .inr ⟨hi, L, e, rfl⟩
  · have := q2.nx; omega
  · intro c0 hc0 hn
    exact q2.keep c0 hc0 fun b hi L e => hn b hi L (Ren.on_some.1 e).2
end
end Go.Eng

/- The abstract evaluator: calls evaluated apart, as data. -/
namespace Go.Eng
variable {β : Type}

/-- Blocks laid over a state. -/
noncomputable def laysK (l : List (Nat × Raw)) : St → (St → Option β) → Option β :=
  @List.rec (Nat × Raw) (fun _ => St → (St → Option β) → Option β) (fun s k => k s) (fun p _ ih s k => @Prod.rec _ _ (fun _ => Option β) (fun b r => putRK b r s fun s => ih s k) p) l
def layS (l : List (Nat × Raw)) (s : St) : St := l.foldl (fun s p => s.put p.1 p.2.norm) s
theorem laysK_eq : ∀ (l : List (Nat × Raw)) (s : St) (k : St → Option β), laysK l s k = k (layS l s)
  | [], s, k => rfl
  | (b, r) :: l, s, k => by
    have e : laysK ((b, r) :: l) s k = putRK b r s fun s => laysK l s k := rfl
    rw [e, putRK_eq, laysK_eq l]
    rfl
theorem layS_nx : ∀ (l : List (Nat × Raw)) (s : St), (layS l s).nx = s.nx
  | [], s => rfl
  | p :: l, s => by
    have e : layS (p :: l) s = layS l (s.put p.1 p.2.norm) := rfl
    rw [e, layS_nx l]; rfl
def keyL (l : List (Nat × Raw)) (b : Nat) : Bool := l.any fun p => Nat.beq p.1 b
theorem layS_get {g : Nat → Option AObj} : ∀ (l : List (Nat × Raw)) (s : St) (b : Nat), (∀ p ∈ l, g p.1 = some p.2.norm) → (layS l s).h.get b = if keyL l b = true then g b else s.h.get b
  | [], s, b, h => by simp [keyL, layS]
  | p :: l, s, b, h => by
    have e : layS (p :: l) s = layS l (s.put p.1 p.2.norm) := rfl
    rw [e, layS_get l _ b fun q hq => h q (by simp [hq])]
    have hk : keyL (p :: l) b = (Nat.beq p.1 b || keyL l b) := rfl
    cases h1 : keyL l b with
    | true => rw [hk, h1]; simp
    | false =>
      rw [hk, h1]
      cases h2 : Nat.beq p.1 b with
      | true =>
        have := Nat.eq_of_beq_eq_true h2
        subst this
        simp [St.put, HQ.get_set, h p (by simp)]
      | false =>
        have := Nat.ne_of_beq_eq_false h2
        simp [St.put, HQ.get_set, Ne.symm this]

/-- Does a block say this? -/
noncomputable def sayR (raw : Raw) (yes : Option β) : Raw → Option β :=
  @Raw.rec (fun _ => Raw → Option β) (fun o => normF fun o' => ifK (oeq o' o) yes)
    (fun n len e w z x r => @Raw.rec (fun _ => Option β) (fun o' => ifK (oeq o' (.cells (bytesL n len) e w z x)) yes)
      (fun n' len' e' w' z' x' => @Bool.rec (fun _ => Option β) (ifK (oeq (.cells (bytesL n' len') e' w' z' x') (.cells (bytesL n len) e w z x)) yes) yes
        (andB (Nat.beq n' n) (andB (Nat.beq len' len) (andB (Nat.beq e' e) (andB (Nat.beq w' w) (andB (z' == z) (x' == x))))))) r) raw
theorem veqs_bytes : ∀ (n len : Nat), veqs (bytesL n len) (bytesL n len) = true
  | _, 0 => by simp [bytesL, veqs]
  | n, len + 1 => by simp only [bytesL, veqs, veq, eqI, veqs_bytes (n / 256) len, decide_true, Bool.true_and, Bool.and_true, Nat.beq_refl]
theorem sayR_ok (raw : Raw) (yes : Option β) : NormOk (sayR raw yes) := by
  intro r
  cases raw with
  | obj o => rfl
  | bytes n len e w z x =>
    cases r with
    | obj o' => rfl
    | bytes n' len' e' w' z' x' =>
      show @Bool.rec (fun _ => Option β) (ifK (oeq (.cells (bytesL n' len') e' w' z' x') (.cells (bytesL n len) e w z x)) yes) yes _ = ifK (oeq (.cells (bytesL n' len') e' w' z' x') (.cells (bytesL n len) e w z x)) yes
      cases h : (andB (Nat.beq n' n) (andB (Nat.beq len' len) (andB (Nat.beq e' e) (andB (Nat.beq w' w) (andB (z' == z) (x' == x)))))) with
      | false => rfl
      | true =>
        simp only [andB_eq, Bool.and_eq_true] at h
        obtain ⟨h1, h2, h3, h4, h5, h6⟩ := h
        have e1 := Nat.eq_of_beq_eq_true h1
        have e2 := Nat.eq_of_beq_eq_true h2
        have e3 := Nat.eq_of_beq_eq_true h3
        have e4 := Nat.eq_of_beq_eq_true h4
        have e5 : z' = z := by simpa using h5
        have e6 : x' = x := by simpa using h6
        subst e1 e2 e3 e4 e5 e6
        have : oeq (.cells (bytesL n' len') e' w' z' x') (.cells (bytesL n' len') e' w' z' x') = true := by
          simp [oeq, veqs_bytes]
        rw [this]; rfl
noncomputable def sayK (b : Nat) (raw : Raw) (s : St) (yes : Option β) : Option β := rawK b s (sayR raw yes) (sayR_ok raw yes)
theorem sayK_some {b : Nat} {raw : Raw} {s : St} {yes : Option β} {r : β} (h : sayK b raw s yes = some r) : s.h.get b = some raw.norm ∧ yes = some r := by
  obtain ⟨o, h1, h2⟩ := rawK_some h
  have key : ∀ o', ifK (oeq o o') yes = some r → o = o' ∧ yes = some r := by
    intro o' h
    obtain ⟨h3, h4⟩ := ifK_some h
    exact ⟨oeq_eq h3, h4⟩
  cases raw with
  | obj o' =>
    obtain ⟨rfl, h3⟩ := key o' h2
    exact ⟨h1, h3⟩
  | bytes n len e w z x =>
    obtain ⟨rfl, h3⟩ := key _ h2
    exact ⟨h1, h3⟩
noncomputable def saysK (l : List (Nat × Raw)) (s : St) (yes : Option β) : Option β :=
  @List.rec (Nat × Raw) (fun _ => Option β) yes (fun p _ ih => @Prod.rec _ _ (fun _ => Option β) (fun b r => sayK b r s ih) p) l
theorem saysK_some {s : St} {yes : Option β} {r : β} : ∀ {l : List (Nat × Raw)}, saysK l s yes = some r → (∀ p ∈ l, s.h.get p.1 = some p.2.norm) ∧ yes = some r
  | [], h => ⟨fun p hp => (by cases hp), h⟩
  | (b, raw) :: l, h => by
    obtain ⟨h1, h2⟩ := sayK_some (show sayK b raw s (saysK l s yes) = some r from h)
    obtain ⟨h3, h4⟩ := saysK_some h2
    refine ⟨fun p hp => ?_, h4⟩
    rcases List.mem_cons.1 hp with rfl | hp
    · exact h1
    · exact h3 p hp

/-- The numbers of some blocks, as the bits of one number. -/
noncomputable def keyM (l : List (Nat × Raw)) : Nat := @List.rec (Nat × Raw) (fun _ => Nat) 0 (fun p _ ih => Nat.lor (Nat.shiftLeft 1 p.1) ih) l
theorem keyM_eq (b : Nat) : ∀ l : List (Nat × Raw), bitB (keyM l) b = keyL l b
  | [] => by rw [bitB_eq]; simp [keyM, keyL]
  | p :: l => by
    have e : keyM (p :: l) = Nat.lor (Nat.shiftLeft 1 p.1) (keyM l) := rfl
    have hk : keyL (p :: l) b = (Nat.beq p.1 b || keyL l b) := rfl
    rw [bitB_eq, e, hk, ← keyM_eq b l, bitB_eq]
    show ((1 <<< p.1) ||| keyM l).testBit b = _
    rw [Nat.testBit_or, Nat.shiftLeft_eq, Nat.one_mul, Nat.testBit_two_pow]
    congr 1
    cases h : Nat.beq p.1 b with
    | true => simp [Nat.eq_of_beq_eq_true h]
    | false => simp [Nat.ne_of_beq_eq_false h]

/-- A call, evaluated. -/
structure Ov where
  f : FuncId
  nx : Nat
  args : List Value
  keep : List (Nat × Raw)
  v : Value
  live : List (Nat × Raw)
  nx' : Nat
noncomputable def allR (k : Nat → Bool) (l : List (Nat × Raw)) : Bool := @List.rec (Nat × Raw) (fun _ => Bool) true (fun p _ ih => andB (rin k p.2) ih) l
theorem allR_ok {k : Nat → Bool} : ∀ {l : List (Nat × Raw)}, allR k l = true → ∀ p ∈ l, oin k p.2.norm = true
  | [], h, p, hp => by cases hp
  | q :: l, h, p, hp => by
    have h' : andB (rin k q.2) (allR k l) = true := h
    rw [andB_eq, Bool.and_eq_true] at h'
    rcases List.mem_cons.1 hp with rfl | hp
    · exact rin_norm h'.1
    · exact allR_ok h'.2 p hp
/-- Is the data closed? -/
noncomputable def Ov.closed (d : Ov) : Bool :=
  andB (allR (bitB (keyM d.keep)) d.keep) (andB (vins (bitB (keyM d.keep)) d.args) (andB (allR (bitB (keyM d.live)) d.live) (andB (vin (bitB (keyM d.live)) d.v)
    (andB (Nat.beq (Nat.lor (keyM d.keep) (keyM d.live)) (keyM d.live))
    (andB (Nat.beq (Nat.mod (keyM d.live) (Nat.shiftLeft 1 d.nx)) (keyM d.keep)) (bitB (keyM d.keep) 0))))))
/-- What is to be evaluated: that the call gives what the data tells. -/
noncomputable def Ov.run (d : Ov) (call : Call') : Option Unit :=
  laysK d.keep ⟨HQ.none, d.nx⟩ fun sa => @Option.rec _ (fun _ => Option Unit) none (fun p => @Prod.rec _ _ (fun _ => Option Unit) (fun e sb =>
    @AEnd.rec (fun _ => Option Unit) (fun v => ifK (veq v d.v) (ifK (Nat.beq sb.nx d.nx') (saysK d.live sb (some ())))) (fun _ => none) e) p) (call (.enter d.f d.args) sa)
/-- The call, as an oracle. -/
noncomputable def Ov.orc (d : Ov) (args : List Value) (s : St) : Option (Value × St) :=
  ifK (Nat.beq s.nx d.nx) (ifK (veqs args d.args) (saysK d.keep s (laysK d.live ⟨s.h, d.nx'⟩ fun s => some (d.v, s))))

section
variable {P : Program} {E : Env}
theorem Ov.run_some {d : Ov} {call : Call'} (h : d.run call = some ()) : ∃ sb, call (.enter d.f d.args) (layS d.keep ⟨HQ.none, d.nx⟩) = some (.ret d.v, sb) ∧ sb.nx = d.nx' ∧ ∀ p ∈ d.live, sb.h.get p.1 = some p.2.norm := by
  unfold Ov.run at h
  rw [laysK_eq] at h
  cases hc : call (.enter d.f d.args) (layS d.keep ⟨HQ.none, d.nx⟩) with
  | none => rw [hc] at h; cases h
  | some y =>
    obtain ⟨e, sb⟩ := y
    rw [hc] at h
    cases e with
    | panic c => cases h
    | ret v =>
      replace h := ifK_some (show ifK (veq v d.v) _ = some () from h); obtain ⟨h1, h⟩ := h
      obtain ⟨h2, h⟩ := ifK_some h
      obtain ⟨h3, h⟩ := saysK_some h
      rw [veq_eq h1]
      exact ⟨sb, rfl, Nat.eq_of_beq_eq_true h2, h3⟩

theorem Ov.truth {d : Ov} {call : Call'} (hcall : ∀ a s r, call a s = some r → CallOk P E a s r) (hrun : d.run call = some ()) (hcl : d.closed = Bool.true)
    (hg : ∀ g v, E.glob g = some v → ∀ k : Nat → Bool, k 0 = Bool.true → vin k v = Bool.true) {args : List Value} {s s' : St} {v : Value} (h : d.orc args s = some (v, s')) :
    ∀ ρ w args' c cs, Rel E ρ s w → VRels ρ args args' → ∃ ρ' w', Rel E ρ' s' w' ∧ Ev ρ s w ρ' s' w' ∧ Gives P ρ' (lone (Frame.enter P d.f args'.toArray .normal) (c :: cs) w) .normal c cs w' (.ret v) := by
  obtain ⟨sb, r1, r2, r3⟩ := Ov.run_some hrun
  unfold Ov.orc at h
  obtain ⟨h1, h⟩ := ifK_some h
  obtain ⟨h2, h⟩ := ifK_some h
  obtain ⟨h3, h⟩ := saysK_some h
  rw [laysK_eq] at h
  simp only [Option.some.injEq, Prod.mk.injEq] at h
  obtain ⟨rfl, rfl⟩ := h
  have h1 := Nat.eq_of_beq_eq_true h1
  obtain rfl := veqs_eq h2
  simp only [Ov.closed, andB_eq, Bool.and_eq_true] at hcl
  obtain ⟨c1, c2, c3, c4, c5, c6, c7⟩ := hcl
  have hkm : ∀ b, bitB (keyM d.keep) b = keyL d.keep b := fun b => keyM_eq b _
  have hlm : ∀ b, bitB (keyM d.live) b = keyL d.live b := fun b => keyM_eq b _
  have mem : ∀ (l : List (Nat × Raw)) b, keyL l b = Bool.true → ∃ p ∈ l, p.1 = b := by
    intro l b hb
    simp only [keyL, List.any_eq_true] at hb
    obtain ⟨p, hp, hb⟩ := hb
    exact ⟨p, hp, Nat.eq_of_beq_eq_true hb⟩
  let sa := layS d.keep ⟨HQ.none, d.nx⟩
  have hsa : ∀ b, keyL d.keep b = Bool.true → sa.h.get b = s.h.get b := by
    intro b hb
    have := layS_get (g := fun b => s.h.get b) d.keep ⟨HQ.none, d.nx⟩ b h3
    rw [if_pos hb] at this
    exact this
  have hsanx : sa.nx = d.nx := layS_nx _ _
  refine overlay (sa := sa) (sb := sb) (keep := bitB (keyM d.keep)) (live := bitB (keyM d.live)) (hcall _ _ _ r1) (fun g v hv => hg g v hv _ c7) ?_ c2 ?_ ?_ c4 ?_ ?_ ?_ ?_ ?_ ?_
  · intro b o hb ho
    rw [hkm] at hb
    obtain ⟨p, hp, rfl⟩ := mem _ _ hb
    rw [hsa _ hb, h3 p hp] at ho
    cases ho
    exact allR_ok c1 p hp
  · intro b hb
    have e := Nat.eq_of_beq_eq_true c5
    have e' : Nat.lor (keyM d.keep) (keyM d.live) = keyM d.keep ||| keyM d.live := rfl
    rw [bitB_eq] at hb ⊢
    rw [← e, e', Nat.testBit_or, hb]; rfl
  · intro b o hb ho
    rw [hlm] at hb
    obtain ⟨p, hp, rfl⟩ := mem _ _ hb
    rw [r3 p hp] at ho
    cases ho
    exact allR_ok c3 p hp
  · intro b hb
    rcases Nat.lt_or_ge b d.nx with hlt | hge
    · left
      have e := Nat.eq_of_beq_eq_true c6
      rw [bitB_eq] at hb ⊢
      rw [← e]
      show (keyM d.live % (1 <<< d.nx)).testBit b = Bool.true
      rw [Nat.shiftLeft_eq, Nat.one_mul, Nat.testBit_mod_two_pow, hb]
      simp [hlt]
    · right; rw [hsanx]; exact hge
  · rw [h1, hsanx]
  · intro b hb
    rw [hkm] at hb
    exact (hsa b hb).symm
  · rw [layS_nx, r2]
  · intro b hb
    rw [hlm] at hb
    have := layS_get (g := fun b => sb.h.get b) d.live ⟨s.h, d.nx'⟩ b r3
    rw [if_pos hb] at this
    exact this
  · intro b hb
    rw [hlm] at hb
    have := layS_get (g := fun b => sb.h.get b) d.live ⟨s.h, d.nx'⟩ b r3
    rw [if_neg (by rw [hb]; exact Bool.false_ne_true)] at this
    exact this
end
end Go.Eng

/- The abstract evaluator: a call evaluated by the kernel, as the kit says it. -/
namespace Go.Eng
section
variable {P : Program} {E : Env}

/-- A call that the evaluator has gone through. -/
theorem enter_calls (ok : E.Ok P) {exec : Ctx → Code → Fr → St → Out} {call : ANext → St → Option (AEnd × St)}
    (hexec : ∀ ctx c fr s r, exec ctx c fr s = some r → From P E ctx [.code c] fr s r) (hcall : ∀ a s r, call a s = some r → CallOk P E a s r) {f : FuncId} {args : List Value} {s s' : St} {v : Value} (ho : E.orc f args s = none)
    (hr : enterF E exec call f args s = some (.ret v, s')) {ρ : Ren} {w : World} {args' : List Value} (h : Rel E ρ s w) (ha : VRels ρ args args') :
    Calls P f args'.toArray w fun e w' => ∃ ρ' v', e = .returned v' ∧ Rel E ρ' s' w' ∧ Ev ρ s w ρ' s' w' ∧ VRel ρ' v v' := by
  unfold enterF at hr
  rw [ho] at hr
  simp only at hr
  split at hr
  case h_2 => cases hr
  rename_i fn hfn
  have hP := ok.ft f fn hfn
  split at hr
  case h_2 => cases hr
  rename_i body hb
  intro cs
  have hctx : CtxOk ρ ⟨f, none⟩ f .normal none cs := ⟨rfl, .inl ⟨rfl, rfl⟩, .inl rfl⟩
  have hfr : FRel ρ ⟨F.ofList args, max args.length fn.ntmps, []⟩ (args'.toArray ++ Array.replicate (fn.ntmps - args'.toArray.size) undef) [] := ⟨trel_args ha fn.ntmps, .nil⟩
  rw [enter_eq hP hb]
  have fin : ∀ {ρ1 : Ren} {w1 : World} {fr1 : Fr} {s1 : St} {tmps1 : Array Value} {defers1 : List Deferred} {todo : List Item}, Rel E ρ1 s1 w1 → Ev ρ s w ρ1 s1 w1 → FRel ρ1 fr1 tmps1 defers1 → leaveF E call fn fr1 s1 = some (.ret v, s') →
      ∃ ρ' w' v', Rel E ρ' s' w' ∧ Ev ρ s w ρ' s' w' ∧ VRel ρ' v v' ∧ Steps P (lone (rfr f .normal tmps1 defers1 todo) cs w1) (lone (rfr f .normal tmps1 [] todo) cs w') ∧ (results fn tmps1).run P w' = .ok v' w' := by
    intro ρ1 w1 fr1 s1 tmps1 defers1 todo q1 q2 q3 hl
    unfold leaveF at hl
    split at hl
    · rename_i s2 hd
      split at hl
      · rename_i vs hvs
        cases hl
        obtain ⟨ρ2, w2, u1, u2, u3⟩ := defersF_ok ok hcall (fn := f) (kind := .normal) (tmps := tmps1) (k := todo) (cs := cs) _ hd q1 q3.d
        obtain ⟨v', t1, t2⟩ := results_ok (P := P) ok u1 (q3.mono u2.le).t hvs
        exact ⟨ρ2, w2, v', u1, q2.trans u2, t2, u3, t1⟩
      · cases hl
    · cases hl
  split at hr
  · rename_i fr1 s1 hx
    obtain ⟨ρ1, w1, tmps1, defers1, q1, q2, q3, q4⟩ := hexec _ _ _ _ _ hx ρ w _ [] f .normal none [] cs h hfr hctx
    obtain ⟨ρ', w', v', u1, u2, u3, u4, u5⟩ := fin (todo := []) q1 q2 q3 hr
    exact ⟨.returned v', w', rfr f .normal tmps1 [] [], ⟨ρ', v', rfl, u1, u2, u3⟩, (Steps.trans q4 (.one (st_leave_end (P := P)))).trans u4, rfl, rfl, rfl, rfl, fn, hP, u5⟩
  · rename_i fr1 s1 hx
    obtain ⟨ρ1, w1, tmps1, defers1, q1, q2, q3, pre, -, q4⟩ := hexec _ _ _ _ _ hx ρ w _ [] f .normal none [] cs h hfr hctx
    obtain ⟨ρ', w', v', u1, u2, u3, u4, u5⟩ := fin (todo := .code .ret :: pre ++ []) q1 q2 q3 hr
    exact ⟨.returned v', w', rfr f .normal tmps1 [] (.code .ret :: pre ++ []), ⟨ρ', v', rfl, u1, u2, u3⟩, (Steps.trans q4 (.one (st_leave_ret (P := P)))).trans u4, rfl, rfl, rfl, rfl, fn, hP, u5⟩
  · split at hr <;> cases hr
  · cases hr

theorem callC_calls (ok : E.Ok P) (hmix : P.follows .mixedOrders = true) (horc : E.True P) {m n : Nat} {f : FuncId} {args : List Value} {s s' : St} {v : Value} (ho : E.orc f args s = none)
    (hr : callC E m (n + 1) (.enter f args) s = some (.ret v, s')) {ρ : Ren} {w : World} {args' : List Value} (h : Rel E ρ s w) (ha : VRels ρ args args') :
    Calls P f args'.toArray w fun e w' => ∃ ρ' v', e = .returned v' ∧ Rel E ρ' s' w' ∧ Ev ρ s w ρ' s' w' ∧ VRel ρ' v v' := by
  have hc := callC_ok ok hmix horc m n
  have hr' : stepC E m (callC E m n) (.enter f args) s = some (.ret v, s') := hr
  simp only [stepC] at hr'
  exact enter_calls ok (execC_ok ok hmix m hc) hc ho (enterC_eq m hr') h ha

/-! ### other oracles -/
theorem Rel.orc {E : Env} {o o' : FuncId → List Value → St → Option (Value × St)} {ρ : Ren} {s : St} {w : World} (h : Rel { E with orc := o } ρ s w) : Rel { E with orc := o' } ρ s w :=
  ⟨h.glob, h.fresh, h.own, h.obj, h.ro⟩
theorem Env.Ok.orc {E : Env} {o o' : FuncId → List Value → St → Option (Value × St)} (h : Env.Ok { E with orc := o } P) : Env.Ok { E with orc := o' } P :=
  ⟨h.tt, h.ft, h.eqok, h.lies, fun f args s v s' hv fn hf hb ρ w args' hr ha => by
    obtain ⟨ρ', w', v', h1, h2, h3, h4⟩ := h.ext f args s v s' hv fn hf hb ρ w args' hr.orc ha
    exact ⟨ρ', w', v', h1, h2.orc, h3, h4⟩⟩

/-- What an oracle owes. -/
def Tells (P : Program) (E : Env) (f : FuncId) (args : List Value) (s : St) (v : Value) (s' : St) : Prop :=
  ∀ ρ w args' c cs, Rel E ρ s w → VRels ρ args args' →
    ∃ ρ' w', Rel E ρ' s' w' ∧ Ev ρ s w ρ' s' w' ∧ Gives P ρ' (lone (Frame.enter P f args'.toArray .normal) (c :: cs) w) .normal c cs w' (.ret v)
theorem Tells.orc {E : Env} {o o' : FuncId → List Value → St → Option (Value × St)} {f args s v s'} (h : Tells P { E with orc := o } f args s v s') : Tells P { E with orc := o' } f args s v s' :=
  fun ρ w args' c cs hr ha => by
    obtain ⟨ρ', w', h1, h2, h3⟩ := h ρ w args' c cs hr.orc ha
    exact ⟨ρ', w', h1.orc, h2, h3⟩
theorem Tells.of_calls {f args s v s'} (h : ∀ ρ w args', Rel E ρ s w → VRels ρ args args' → Calls P f args'.toArray w fun e w' => ∃ ρ' v', e = .returned v' ∧ Rel E ρ' s' w' ∧ Ev ρ s w ρ' s' w' ∧ VRel ρ' v v') : Tells P E f args s v s' := by
  intro ρ w args' c cs hr ha
  obtain ⟨e, w', fr, ⟨ρ', v', rfl, h1, h2, h3⟩, h4, h5, h6⟩ := h ρ w args' hr ha (c :: cs)
  exact ⟨ρ', w', h1, h2, v', h3, Steps.trans h4 (.one (step_leave_returned h6))⟩
/-- Calls evaluated apart, one after the other. -/
noncomputable def orcL (l : List Ov) (f : FuncId) (args : List Value) (s : St) : Option (Value × St) :=
  @List.rec Ov (fun _ => Option (Value × St)) none (fun d _ ih => @Bool.rec (fun _ => Option (Value × St)) ih (@Option.rec (Value × St) (fun _ => Option (Value × St)) ih some (d.orc args s)) (Nat.beq f d.f)) l
theorem orcL_some {f args s r} : ∀ {l : List Ov}, orcL l f args s = some r → ∃ d ∈ l, d.f = f ∧ d.orc args s = some r
  | [], h => by cases h
  | d :: l, h => by
    have h' : @Bool.rec (fun _ => Option (Value × St)) (orcL l f args s) (@Option.rec (Value × St) (fun _ => Option (Value × St)) (orcL l f args s) some (d.orc args s)) (Nat.beq f d.f) = some r := h
    have rest : orcL l f args s = some r → ∃ d' ∈ d :: l, d'.f = f ∧ d'.orc args s = some r := by
      intro h
      obtain ⟨d', h1, h2⟩ := orcL_some h
      exact ⟨d', by simp [h1], h2⟩
    cases hb : Nat.beq f d.f with
    | false => rw [hb] at h'; exact rest h'
    | true =>
      rw [hb] at h'
      cases ho : d.orc args s with
      | none => rw [ho] at h'; exact rest h'
      | some r' =>
        rw [ho] at h'
        refine ⟨d, by simp, (Nat.eq_of_beq_eq_true hb).symm, ?_⟩
        rw [ho]; exact h'
theorem Ov.tells {d : Ov} {m n : Nat} (ok : E.Ok P) (hmix : P.follows .mixedOrders = true) (horc : E.True P) (hrun : d.run (callC E m n) = some ()) (hcl : d.closed = Bool.true)
    (hg : ∀ g v, E.glob g = some v → ∀ k : Nat → Bool, k 0 = Bool.true → vin k v = Bool.true) {args s v s'} (h : d.orc args s = some (v, s')) : Tells P E d.f args s v s' :=
  Ov.truth (callC_ok ok hmix horc m n) hrun hcl hg h
end
end Go.Eng

/- The abstract evaluator: the library's functions without a body. -/
namespace Go.Eng
section
variable {P : Program} {E : Env} {ρ : Ren} {s : St} {w : World}
/-- The bytes of a slice. -/
noncomputable def sliceBytes (s : St) : Value → Option (List UInt8)
  | .slice none _ _ => some []
  | .slice (some a) n _ => match readN s a n with
    | some l => bytesOfCells l
    | none => none
  | _ => none
theorem sliceBytes_ok (h : Rel E ρ s w) {x x' : Value} (hx : VRel ρ x x') {bs : List UInt8} (hb : sliceBytes s x = some bs) : (Extern.Bytes.bytesOf x').run P w = .ok ⟨⟨bs⟩⟩ w := by
  unfold sliceBytes at hb
  split at hb
  · cases hx; cases hb; rfl
  · rename_i a n c
    split at hb
    · rename_i l hl
      have key : ∀ (a' : Addr) (c' : Nat) (L : Loc) (b o hi : Nat), a = ⟨b, o, some hi⟩ → x' = .slice (some a') n c' → ρ b hi = some L → (n = 0 ∨ a' = ⟨L.c, o, none⟩) → (Extern.Bytes.bytesOf x').run P w = .ok ⟨⟨bs⟩⟩ w := by
        intro a' c' L b o hi ha hx' hρ hor
        subst ha hx'
        obtain ⟨ca, el, fz, q1, q2, q3, q4⟩ := readN_rel h hρ hl
        obtain ⟨heq, ns, hns, hns2⟩ := bytesOfCells_ok hb q4
        have hlen : ns.length = n := by rw [← q3, hns]; simp
        have := Lib.run_loadBytesX (P := P) w ns a' .empty (fun j x hj => by
          have hjn : j < n := by rw [← hlen]; exact (List.getElem?_eq_some_iff.1 hj).1
          rcases hor with h0 | ha
          · omega
          subst ha
          have hcell : (ca.toList.drop o).take n = ns.map (Value.int .u8) := by rw [heq, hns]
          have hj2 : ((ca.toList.drop o).take n)[j]? = some (.int .u8 x) := by rw [hcell]; simp [hj]
          rw [List.getElem?_take, if_pos hjn, List.getElem?_drop] at hj2
          rw [Addr.add_lit]
          simp only [World.cell?, q1]
          simpa using hj2)
        rw [hlen] at this
        show (Extern.Bytes.loadBytes a' n .empty).run P w = _
        rw [this, hns2]
        congr 1
        apply ByteArray.ext
        simp [Lib.bytesOf, Nat.toUInt8]
      cases hx
      case slice b o hi L c hρ => exact key _ _ L b o hi rfl rfl hρ (.inr rfl)
      case sliceOpen b o hi L c hρ _ _ => exact key _ _ L b o hi rfl rfl hρ (.inr rfl)
      case sliceEnd b o hi o' L hρ _ => exact key _ _ L b o hi rfl rfl hρ (.inl rfl)
      case sliceZero b o hi o' L hρ => exact key _ _ L b o hi rfl rfl hρ (.inl rfl)
    · cases hb
  · cases hb

variable {f : FuncId} {fn : Func} (hf : P.funcs[f]? = some fn) (hname : (fn.name == "runtime.NumGoroutine") = false) (hb : fn.body.isNone = true) (hn : Extern.findNext fn = none)
include hf hname hb hn
theorem ext_noEscape (he : Extern.find fn = some Extern.AbiNoEscape.same) (h : Rel E ρ s w) {x : Value} {args' : List Value} (ha : VRels ρ [x] args') :
    ∃ ρ' w' v', (callFunc f args'.toArray).run P w = .ok (.value v') w' ∧ Rel E ρ' s w' ∧ Ev ρ s w ρ' s w' ∧ VRel ρ' x v' := by
  cases ha with
  | cons hx hs =>
    cases hs
    rename_i x'
    refine ⟨ρ, w, x', ?_, h, Ev.refl _ _ _, hx⟩
    rw [run_callFunc_extern hf hname hb hn he]
    rfl
theorem ext_compare (he : Extern.find fn = some Extern.BytealgCompare.compare) (h : Rel E ρ s w) {x y : Value} {bx bby : List UInt8} (hx : sliceBytes s x = some bx) (hy : sliceBytes s y = some bby) {args' : List Value} (ha : VRels ρ [x, y] args') :
    ∃ ρ' w' v', (callFunc f args'.toArray).run P w = .ok (.value v') w' ∧ Rel E ρ' s w' ∧ Ev ρ s w ρ' s w' ∧ VRel ρ' (.int .i64 (Lib.compareBytes bx bby)) v' := by
  cases ha with
  | cons h1 hs =>
    cases hs with
    | cons h2 hs =>
      cases hs
      rename_i x' y'
      refine ⟨ρ, w, .int .i64 (Lib.compareBytes bx bby), ?_, h, Ev.refl _ _ _, .int _ _⟩
      rw [run_callFunc_extern hf hname hb hn he]
      have e : (Extern.BytealgCompare.compare #[x', y']).run P w = .ok (.int .i64 (Lib.compareBytes bx bby)) w := by
        change Sem.run P (do pure (goInt (Extern.BytealgCompare.cmp (← Extern.Bytes.bytesOf x') (← Extern.Bytes.bytesOf y')))) w = _
        simp only [Sem.run_bind, Sem.run_pure, sliceBytes_ok (P := P) h h1 hx, sliceBytes_ok (P := P) h h2 hy, Result.andThen_ok]
        rw [Lib.cmp_eq]
        rfl
      show ((Extern.BytealgCompare.compare #[x', y']).run P w).andThen _ = _
      rw [e]; rfl
theorem ext_makeNoZero {ps : Array TypeId} {t e : TypeId} (he : Extern.find fn = some (Extern.BytealgMakeNoZero.makeNoZero ps #[t])) (ht : P.underlying t = some (.slice e)) (hsz : E.size e = some 1) {n : Nat} (hn48 : n ≤ 281474976710656)
    (h : Rel E ρ s w) {args' : List Value} (ha : VRels ρ [.int .i64 (.ofNat n)] args') :
    ∃ ρ' w' v', (callFunc f args'.toArray).run P w = .ok (.value v') w' ∧ Rel E ρ' (s.row e [] false).2 w' ∧ Ev ρ s w ρ' (s.row e [] false).2 w' ∧ VRel ρ' (.slice (some (s.row e [] false).1) n 0) v' := by
  cases ha with
  | cons h1 hs =>
    cases hs
    cases h1
    obtain ⟨cs, h2, h3, -⟩ := Lib.run_makeNoZero (P := P) w ps t e ht n hn48
    obtain ⟨d1, d2⟩ := h.draw
    obtain ⟨d3, d4⟩ := d1.draw
    obtain ⟨ρ', -, r2, r3, L, r4, r5, r6, r7⟩ := oneRow_ok (P := P) (el := e) (cs := []) (ca := cs.toList) d3 false (by simpa using VRels.nil) (by intro hh; cases hh)
    refine ⟨ρ', _, _, ?_, r2, (d2.trans d4).trans r3, VRel.sliceOpen (o := 0) (hi := 0) n cs.size r4 (by rw [r6, r7, hsz]; simp) (by rw [r7, hsz]; decide)⟩
    rw [run_callFunc_extern hf hname hb hn he]
    show ((Extern.BytealgMakeNoZero.makeNoZero ps #[t] #[.int .i64 n]).run P w).andThen _ = _
    rw [h2]
    simp only [Result.andThen]
    rw [r5]
    rfl
end
end Go.Eng
