/- The abstract evaluator of the model, part e: definitions and laws, of no program. -/
import Derived.Test.YtkgapncajjafoaaGreatDoorEd
import Derived.Calls
set_option linter.all false
/- The abstract evaluator: the machine's steps. -/
namespace Go.Eng
variable {P : Program}

/-- A running frame. -/
def cfr (fn : FuncId) (kind : CallKind) (round : Option Nat) (tmps : Array Value) (defers : List Deferred) (todo : List Item) : Frame :=
  { fn, tmps, todo, defers, mode := .run, kind, roundOf := round }

theorem eval_cfr (fn : FuncId) (kind : CallKind) (round : Option Nat) (tmps : Array Value) (defers : List Deferred) (todo : List Item) : (cfr fn kind round tmps defers todo).eval = cev tmps := by
  funext x; cases x <;> rfl

section
variable {fn : FuncId} {kind : CallKind} {round : Option Nat} {tmps : Array Value} {defers : List Deferred} {k : List Item} {cs : List Frame} {w : World}
theorem st_skip : step P (lone (cfr fn kind round tmps defers (.code .skip :: k)) cs w) = .next (lone (cfr fn kind round tmps defers k) cs w) :=
  step_lone_go (by simp [stepG, stepG.exec, cfr])
theorem st_label {l : Nat} : step P (lone (cfr fn kind round tmps defers (.code (.label l) :: k)) cs w) = .next (lone (cfr fn kind round tmps defers k) cs w) :=
  step_lone_go (by simp [stepG, stepG.exec, cfr])
theorem st_inBlock {id : Nat} : step P (lone (cfr fn kind round tmps defers (.inBlock id :: k)) cs w) = .next (lone (cfr fn kind round tmps defers k) cs w) :=
  step_lone_go (by simp [stepG, stepG.exec, cfr])
theorem st_inScope {c : Code} : step P (lone (cfr fn kind round tmps defers (.inScope c :: k)) cs w) = .next (lone (cfr fn kind round tmps defers k) cs w) :=
  step_lone_go (by simp [stepG, stepG.exec, cfr])
theorem st_seq {x y : Code} : step P (lone (cfr fn kind round tmps defers (.code (.seq x y) :: k)) cs w) = .next (lone (cfr fn kind round tmps defers (.code x :: .code y :: k)) cs w) :=
  step_lone_go (by simp [stepG, stepG.exec, cfr])
theorem st_cond {c : Operand} {x y : Code} {t : Bool} (h : cev tmps c = .bool t) :
    step P (lone (cfr fn kind round tmps defers (.code (.cond c x y) :: k)) cs w) = .next (lone (cfr fn kind round tmps defers (.code (if t then x else y) :: k)) cs w) :=
  step_lone_go (by
    have := congrFun (eval_cfr fn kind round tmps defers (.code (.cond c x y) :: k)) c
    simp only [cfr] at this
    simp [stepG, stepG.exec, cfr, this, h])
theorem st_block {id : Nat} {c : Code} : step P (lone (cfr fn kind round tmps defers (.code (.block id c) :: k)) cs w) = .next (lone (cfr fn kind round tmps defers (.code c :: .inBlock id :: k)) cs w) :=
  step_lone_go (by simp [stepG, stepG.exec, cfr])
theorem st_loop {c : Code} : step P (lone (cfr fn kind round tmps defers (.code (.loop c) :: k)) cs w) = .next (lone (cfr fn kind round tmps defers (.code c :: .inLoop c :: k)) cs w) :=
  step_lone_go (by simp [stepG, stepG.exec, cfr])
theorem st_inLoop {c : Code} : step P (lone (cfr fn kind round tmps defers (.inLoop c :: k)) cs w) = .next (lone (cfr fn kind round tmps defers (.code c :: .inLoop c :: k)) cs w) :=
  step_lone_go (by simp [stepG, stepG.exec, cfr])
theorem st_scope {c : Code} : step P (lone (cfr fn kind round tmps defers (.code (.scope c) :: k)) cs w) = .next (lone (cfr fn kind round tmps defers (.code c :: .inScope c :: k)) cs w) :=
  step_lone_go (by simp [stepG, stepG.exec, cfr])
theorem st_exit {id : Nat} {k' : List Item} (h : exitTo id k = some k') : step P (lone (cfr fn kind round tmps defers (.code (.exit id) :: k)) cs w) = .next (lone (cfr fn kind round tmps defers k') cs w) :=
  step_lone_go (by simp [stepG, stepG.exec, cfr, h])
theorem st_goto {l : Nat} {k' : List Item} (h : gotoIn l k = some k') : step P (lone (cfr fn kind round tmps defers (.code (.goto l) :: k)) cs w) = .next (lone (cfr fn kind round tmps defers k') cs w) :=
  step_lone_go (by simp [stepG, stepG.exec, cfr, h])
theorem st_region {id : Nat} {ops : Array Oper} : step P (lone (cfr fn kind round tmps defers (.code (.region id ops false) :: k)) cs w) =
    .next (lone (cfr fn kind round tmps defers (.inRegion ops (List.range ops.size) :: k)) cs w) :=
  step_lone_go (by simp [stepG, stepG.exec, cfr])
theorem st_draw {id : Nat} {ops : Array Oper} : step P (lone (cfr fn kind round tmps defers (.code (.region id ops true) :: k)) cs w) =
    .next (lone (cfr fn kind round tmps defers (.inRegion ops (Region.schedule (P.follows .mixedOrders) ops (w.tape w.drawn (.order fn id))) :: k)) cs w.drew) :=
  step_lone_go (by simp [stepG, stepG.exec, cfr, choose, Sem.run, Question.forced, Question.cut])
theorem st_end {ops : Array Oper} : step P (lone (cfr fn kind round tmps defers (.inRegion ops [] :: k)) cs w) = .next (lone (cfr fn kind round tmps defers k) cs w) :=
  step_lone_go (by simp [stepG, stepG.exec, cfr])

/-- What an operation's destination gets. -/
def putT (tmps : Array Value) (dst : Option Tmp) (v : Value) : Array Value :=
  match dst with
  | some d => tmps.setIfInBounds d v
  | none => tmps
theorem finish_cfr (ops : Array Oper) (i : Nat) (rest : List Nat) (v : Value) :
    (cfr fn kind round tmps defers (.inRegion ops (i :: rest) :: k)).finish v = cfr fn kind round (putT tmps ((ops[i]?).bind (·.dst)) v) defers (.inRegion ops rest :: k) := by
  cases h : (ops[i]?).bind (·.dst) <;> simp [Frame.finish, cfr, putT, h]

theorem st_opskip {ops : Array Oper} {i : Nat} {rest : List Nat} {o : Oper} (ho : ops[i]? = some o) (h : Region.wanted o (yielded ops tmps) = false) :
    step P (lone (cfr fn kind round tmps defers (.inRegion ops (i :: rest) :: k)) cs w) = .next (lone (cfr fn kind round (putT tmps o.dst undef) defers (.inRegion ops rest :: k)) cs w) := by
  have := finish_cfr (fn := fn) (kind := kind) (round := round) (tmps := tmps) (defers := defers) (k := k) ops i rest undef
  rw [ho] at this
  simp only [Option.bind_some] at this
  rw [← this]
  exact step_lone_go (by
    simp only [cfr] at *
    simp [stepG, stepG.exec, ho, h])
theorem stepG_cfr {ops : Array Oper} {i : Nat} {rest : List Nat} {o : Oper} (ho : ops[i]? = some o) (hw : Region.wanted o (yielded ops tmps) = true) (hr : round = none ∨ ∀ c, o.op ≠ .defer c) :
    stepG P true { frame := cfr fn kind round tmps defers (.inRegion ops (i :: rest) :: k), callers := cs, status := .running, dying := none } w =
      stepG.apply P true (cfr fn kind round tmps defers (.inRegion ops (i :: rest) :: k)) cs none (execOp (cev tmps) o) w := by
  have he := eval_cfr fn kind round tmps defers (.inRegion ops (i :: rest) :: k)
  simp only [cfr] at he
  rcases hr with rfl | hr
  · simp [stepG, stepG.exec, stepG.oper, Frame.oper?, cfr, ho, hw, he]
  · simp only [stepG, stepG.exec, stepG.oper, Frame.oper?, cfr, ho, hw, he, Option.map_some, Option.getD_some, if_true]
    cases round with
    | none => rfl
    | some l =>
      cases hop : o.op <;> first | rfl | exact absurd hop (hr _)

section
variable {ops : Array Oper} {i : Nat} {rest : List Nat} {o : Oper} (ho : ops[i]? = some o) (hw : Region.wanted o (yielded ops tmps) = true)
include ho hw
theorem st_opval (hr : round = none ∨ ∀ c, o.op ≠ .defer c) {v : Value} {w' : World} (h : (execOp (cev tmps) o).run P w = .ok (.value v) w') :
    step P (lone (cfr fn kind round tmps defers (.inRegion ops (i :: rest) :: k)) cs w) = .next (lone (cfr fn kind round (putT tmps o.dst v) defers (.inRegion ops rest :: k)) cs w') := by
  have := finish_cfr (fn := fn) (kind := kind) (round := round) (tmps := tmps) (defers := defers) (k := k) ops i rest v
  rw [ho] at this
  simp only [Option.bind_some] at this
  rw [← this]
  exact step_lone_go (by rw [stepG_cfr ho hw hr]; simp [stepG.apply, h])
theorem st_opunit (hr : round = none ∨ ∀ c, o.op ≠ .defer c) {w' : World} (h : (execOp (cev tmps) o).run P w = .ok .skip w') :
    step P (lone (cfr fn kind round tmps defers (.inRegion ops (i :: rest) :: k)) cs w) = .next (lone (cfr fn kind round (putT tmps o.dst undef) defers (.inRegion ops rest :: k)) cs w') := by
  have := finish_cfr (fn := fn) (kind := kind) (round := round) (tmps := tmps) (defers := defers) (k := k) ops i rest undef
  rw [ho] at this
  simp only [Option.bind_some] at this
  rw [← this]
  exact step_lone_go (by rw [stepG_cfr ho hw hr]; simp [stepG.apply, h])
theorem st_opdefer (hr : round = none) {d : Deferred} {w' : World} (h : (execOp (cev tmps) o).run P w = .ok (.defer d) w') :
    step P (lone (cfr fn kind round tmps defers (.inRegion ops (i :: rest) :: k)) cs w) = .next (lone (cfr fn kind round (putT tmps o.dst undef) (d :: defers) (.inRegion ops rest :: k)) cs w') := by
  have := finish_cfr (fn := fn) (kind := kind) (round := round) (tmps := tmps) (defers := d :: defers) (k := k) ops i rest undef
  rw [ho] at this
  simp only [Option.bind_some] at this
  rw [← this]
  exact step_lone_go (by rw [stepG_cfr ho hw (.inl hr)]; simp [stepG.apply, h]; rfl)
theorem st_oprecover (hr : round = none) (hk : kind = .normal ∨ (kind = .deferred ∧ ∃ c rest, cs = c :: rest ∧ c.mode = .returning)) {w' : World} (h : (execOp (cev tmps) o).run P w = .ok .recover w') :
    step P (lone (cfr fn kind round tmps defers (.inRegion ops (i :: rest) :: k)) cs w) = .next (lone (cfr fn kind round (putT tmps o.dst .nilIface) defers (.inRegion ops rest :: k)) cs w') := by
  have := finish_cfr (fn := fn) (kind := kind) (round := round) (tmps := tmps) (defers := defers) (k := k) ops i rest .nilIface
  rw [ho] at this
  simp only [Option.bind_some] at this
  rw [← this]
  have hno : tryRecover (cfr fn kind round tmps defers (.inRegion ops (i :: rest) :: k)) cs = none := by
    rcases hk with rfl | ⟨rfl, c, rest, rfl, hm⟩
    · simp [tryRecover, cfr]
    · simp [tryRecover, cfr, hm]
  exact step_lone_go (by
    rw [stepG_cfr ho hw (.inl hr)]
    subst hr
    simp only [stepG.apply, Sem.runT_eq, h, if_true, GStep.bare_after]
    have : (cfr fn kind none tmps defers (.inRegion ops (i :: rest) :: k)).roundOf = none := rfl
    simp only [this, hno]
    rfl)
theorem st_openter (hr : round = none ∨ ∀ c, o.op ≠ .defer c) {f : FuncId} {args : Array Value} {w' : World} (h : (execOp (cev tmps) o).run P w = .ok (.enter f args) w') :
    step P (lone (cfr fn kind round tmps defers (.inRegion ops (i :: rest) :: k)) cs w) = .next (lone (Frame.enter P f args .normal) (cfr fn kind round tmps defers (.inRegion ops (i :: rest) :: k) :: cs) w') :=
  step_lone_go (by rw [stepG_cfr ho hw hr]; simp [stepG.apply, h, cfr])
theorem st_opround (hr : round = none ∨ ∀ c, o.op ≠ .defer c) {l : Nat} {f : FuncId} {t : Array Value} {x y : Code} {w' : World} (h : (execOp (cev tmps) o).run P w = .ok (.round l f t x y) w') :
    step P (lone (cfr fn kind round tmps defers (.inRegion ops (i :: rest) :: k)) cs w) = .next (lone (Frame.round l f t x y .normal) (cfr fn kind round tmps defers (.inRegion ops (i :: rest) :: k) :: cs) w') :=
  step_lone_go (by rw [stepG_cfr ho hw hr]; simp [stepG.apply, h, cfr])
theorem st_oppanic (hr : round = none ∨ ∀ c, o.op ≠ .defer c) {v : Value} {w' : World} (h : (execOp (cev tmps) o).run P w = .halt (.panic v) w') :
    step P (lone (cfr fn kind round tmps defers (.inRegion ops (i :: rest) :: k)) cs w) = .next (lone { cfr fn kind round tmps defers (.inRegion ops (i :: rest) :: k) with mode := .panicking [{ v, recovered := false }] } cs w') :=
  step_lone_go (by rw [stepG_cfr ho hw hr]; simp [stepG.apply, h, cfr, Frame.raise])
end
end

/-! ### what the evaluator's outcomes say of the machine -/
def CPass : Code → List Item → Prop
  | .exit id, pre => ∀ k, exitTo id (pre ++ k) = exitTo id k
  | .goto l, pre => ∀ k, gotoIn l (pre ++ k) = gotoIn l k
  | .ret, _ => True
  | _, _ => False
inductive CRel (ρ : Ren) : List PanicEntry → List PanicEntry → Prop where
  | nil : CRel ρ [] []
  | cons {v v' : Value} {r g : Bool} {l l' : List PanicEntry} (h : VRel ρ v v') (hs : CRel ρ l l') : CRel ρ ({ v, recovered := r, goexit := g } :: l) ({ v := v', recovered := r, goexit := g } :: l')

/-- The machine has come to a piece of code's end. -/
def Arr (P : Program) (ρ : Ren) (m : Machine) (fn : FuncId) (kind : CallKind) (round : Option Nat) (tmps : Array Value) (defers : List Deferred) (k : List Item) (cs : List Frame) (w : World) : AExit → Prop
  | .normal => Steps P m (lone (cfr fn kind round tmps defers k) cs w)
  | .jump c => ∃ pre, CPass c pre ∧ Steps P m (lone (cfr fn kind round tmps defers (.code c :: pre ++ k)) cs w)
  | .panic chain => ∃ todo chain', CRel ρ chain chain' ∧ Steps P m (lone { cfr fn kind round tmps defers todo with mode := .panicking chain' } cs w)

/-- Where a piece of code runs. -/
structure CtxOk (ρ : Ren) (ctx : Ctx) (fn : FuncId) (kind : CallKind) (round : Option Nat) (cs : List Frame) : Prop where
  fn : fn = ctx.fn
  round : (ctx.round = none ∧ round = none) ∨ ∃ l L, ctx.round = some l ∧ round = some (Loc.c L) ∧ ρ l 0 = some L
  norec : kind = .normal ∨ (kind = .deferred ∧ ∃ c rest, cs = c :: rest ∧ c.mode = .returning)
theorem CtxOk.mono {ρ ρ' : Ren} (le : ρ.le ρ') {ctx : Ctx} {fn : FuncId} {kind : CallKind} {round : Option Nat} {cs : List Frame} (h : CtxOk ρ ctx fn kind round cs) : CtxOk ρ' ctx fn kind round cs :=
  ⟨h.fn, h.round.imp id fun ⟨l, L, h1, h2, h3⟩ => ⟨l, L, h1, h2, le _ _ _ h3⟩, h.norec⟩

/-- The evaluator's outcome of a piece of code is the machine's. -/
def From (P : Program) (E : Env) (ctx : Ctx) (start : List Item) (fr : Fr) (s : St) (r : AExit × Fr × St) : Prop :=
  ∀ ρ w tmps defers fn kind round k cs, Rel E ρ s w → FRel ρ fr tmps defers → CtxOk ρ ctx fn kind round cs →
    ∃ ρ' w' tmps' defers', Rel E ρ' r.2.2 w' ∧ Ev ρ s w ρ' r.2.2 w' ∧ FRel ρ' r.2.1 tmps' defers' ∧
      Arr P ρ' (lone (cfr fn kind round tmps defers (start ++ k)) cs w) fn kind round tmps' defers' k cs w' r.1

theorem Arr.of_steps {ρ : Ren} {m m1 : Machine} {fn : FuncId} {kind : CallKind} {round : Option Nat} {tmps : Array Value} {defers : List Deferred} {k : List Item} {cs : List Frame} {w : World} {e : AExit}
    (h : Steps P m m1) (h' : Arr P ρ m1 fn kind round tmps defers k cs w e) : Arr P ρ m fn kind round tmps defers k cs w e := by
  cases e with
  | normal => exact h.trans h'
  | jump c => obtain ⟨pre, h1, h2⟩ := h'; exact ⟨pre, h1, h.trans h2⟩
  | panic chain => obtain ⟨todo, c', h1, h2⟩ := h'; exact ⟨todo, c', h1, h.trans h2⟩

/-- A call's end: kind .normal hands the value to the caller, kind .deferred does not. -/
def handed (kind : CallKind) (c : Frame) (v : Value) : Frame := match kind with | .deferred => c | _ => c.finish v
def Gives (P : Program) (ρ : Ren) (m : Machine) (kind : CallKind) (c : Frame) (cs : List Frame) (w : World) : AEnd → Prop
  | .ret v => ∃ v', VRel ρ v v' ∧ Steps P m (lone (handed kind c v') cs w)
  | .panic chain => ∃ chain', CRel ρ chain chain' ∧ Steps P m (lone (c.raise chain') cs w)

def kindOk (kind : CallKind) (c : Frame) : Prop := kind = .normal ∨ (kind = .deferred ∧ c.mode = .returning)

/-- The evaluator's outcome of a call is the machine's. -/
def CallOk (P : Program) (E : Env) (a : ANext) (s : St) (r : AEnd × St) : Prop :=
  match a with
  | .enter f args => ∀ ρ w args' kind c cs, Rel E ρ s w → VRels ρ args args' → kindOk kind c → (kind = .normal ∨ E.orc f args s = none) →
      ∃ ρ' w', Rel E ρ' r.2 w' ∧ Ev ρ s w ρ' r.2 w' ∧ Gives P ρ' (lone (Frame.enter P f args'.toArray kind) (c :: cs) w) kind c cs w' r.1
  | .round l args => ∀ ρ w L args' c cs, Rel E ρ s w → ρ l 0 = some L → VRels ρ args args' →
      ∃ fn t x y ρ' w', (Instr.yield L.c args'.toArray).run P w = .ok (.round L.c fn t x y) w ∧ Rel E ρ' r.2 w' ∧ Ev ρ s w ρ' r.2 w' ∧ Gives P ρ' (lone (Frame.round L.c fn t x y .normal) (c :: cs) w) .normal c cs w' r.1
  | _ => False
end Go.Eng

/- The abstract evaluator: regions in the text's order. -/
namespace Go.Eng
section
variable {P : Program} {E : Env} {ρ : Ren} {s : St} {w : World}

theorem VRel.bool_iff {v v' : Value} (h : VRel ρ v v') (b : Bool) : v = .bool b ↔ v' = .bool b := by
  constructor
  · rintro rfl; cases h; rfl
  · rintro rfl; cases h; rfl

theorem yielded_eq {fr : Fr} {tmps : Array Value} (h : TRel ρ fr.t fr.n tmps) (ops : Array Oper) (j : Nat) : yieldedA ops fr j = yielded ops tmps j := by
  unfold yieldedA yielded
  cases hd : (ops[j]?).bind (·.dst) with
  | none => simp
  | some d =>
    simp only [Option.bind_some]
    have hv := h.v d
    show (match fr.tmp d with | .bool b => some b | _ => none) = _
    have hv' : VRel ρ (fr.tmp d) (tmps.getD d undef) := hv
    by_cases hlt : d < tmps.size
    · rw [Array.getElem?_eq_getElem hlt]
      rw [show tmps.getD d undef = tmps[d] from by simp [Array.getD, hlt]] at hv'
      generalize tmps[d] = q at hv' ⊢
      generalize fr.tmp d = p at hv' ⊢
      cases hv' <;> rfl
    · rw [Array.getElem?_eq_none (Nat.le_of_not_lt hlt)]
      rw [show tmps.getD d undef = undef from by simp [Array.getD, hlt]] at hv'
      generalize hq : fr.tmp d = q at hv' ⊢
      generalize hu : undef = u at hv'
      cases hv' <;> first | rfl | (simp [undef] at hu)
theorem wanted_eq {fr : Fr} {tmps : Array Value} (h : TRel ρ fr.t fr.n tmps) (ops : Array Oper) (o : Oper) : wantedA ops fr o = Region.wanted o (yielded ops tmps) := by
  unfold wantedA Region.wanted
  cases o.guard with
  | none => rfl
  | some g => obtain ⟨j, want⟩ := g; simp only [yielded_eq h]

theorem TRel.set {t : F} {n : Nat} {tmps : Array Value} (h : TRel ρ t n tmps) {d : Nat} (hd : d < n) {v v' : Value} (hv : VRel ρ v v') : TRel ρ (t.set d v) n (tmps.setIfInBounds d v') := by
  refine ⟨by simp [h.n], fun i => ?_⟩
  rw [F.get_set]
  by_cases hi : i = d
  · subst hi
    have hlt : i < tmps.size := h.n ▸ hd
    rw [if_pos rfl]
    simp [Array.getD, hlt, hv]
  · rw [if_neg hi]
    have := h.v i
    have e : (tmps.setIfInBounds d v').getD i undef = tmps.getD i undef := by
      simp only [Array.getD, Array.size_setIfInBounds]
      by_cases hlt : i < tmps.size
      · simp [hlt, Array.getElem_setIfInBounds, Ne.symm hi]
      · simp [hlt]
    rw [e]; exact this
theorem FRel.put {fr : Fr} {tmps : Array Value} {defers : List Deferred} (h : FRel ρ fr tmps defers) (dst : Option Tmp) {v v' : Value} (hv : VRel ρ v v') : FRel ρ (fr.put dst v) (putT tmps dst v') defers := by
  cases dst with
  | none => exact h
  | some d =>
    simp only [Fr.put, putT]
    cases hb : Nat.blt d fr.n with
    | true =>
      rw [Nat.blt_eq] at hb
      exact ⟨h.t.set hb hv, h.d⟩
    | false =>
      have hge : ¬ d < fr.n := fun hh => by rw [← Nat.blt_eq] at hh; rw [hh] at hb; cases hb
      have : tmps.setIfInBounds d v' = tmps := by
        rw [Array.setIfInBounds, dif_neg (by rw [← h.t.n]; exact hge)]
      simp only [cond, this]
      exact h
theorem FRel.defer {fr : Fr} {tmps : Array Value} {defers : List Deferred} (h : FRel ρ fr tmps defers) {d d' : Deferred} (hd : DRel ρ d d') : FRel ρ { fr with d := d :: fr.d } tmps (d' :: defers) := ⟨h.t, .cons hd h.d⟩

theorem undef_rel : VRel ρ undef undef := .tuple .nil

/-- ONE OPERATION, ON THE MACHINE: what onNext says. -/
theorem onNext_ok (ok : E.Ok P) {call : ANext → St → Option (AEnd × St)} (hcall : ∀ a s r, call a s = some r → CallOk P E a s r) {ctx : Ctx} {ops : Array Oper} {i : Nat} {rest : List Nat} {o : Oper} (ho : ops[i]? = some o)
    {fr : Fr} {tmps : Array Value} {defers : List Deferred} {fn : FuncId} {kind : CallKind} {round : Option Nat} {k : List Item} {cs : List Frame}
    (h : Rel E ρ s w) (hf : FRel ρ fr tmps defers) (hc : CtxOk ρ ctx fn kind round cs) (hw : Region.wanted o (yielded ops tmps) = true)
    {a : ANext} (hn : NextOk P E ρ s w ((execOp (cev tmps) o).run P w) a) {r : AExit × Fr × St} (hr : onNext call ctx.round.isSome o fr s a = some r)
    (hdef : (∃ c, o.op = .defer c) → (∃ d, a = .defer d)) :
    ∃ ρ' w' tmps' defers', Rel E ρ' r.2.2 w' ∧ Ev ρ s w ρ' r.2.2 w' ∧ FRel ρ' r.2.1 tmps' defers' ∧
      match r.1 with
      | .normal => Steps P (lone (cfr fn kind round tmps defers (.inRegion ops (i :: rest) :: k)) cs w) (lone (cfr fn kind round tmps' defers' (.inRegion ops rest :: k)) cs w')
      | .panic chain => ∃ todo chain', CRel ρ' chain chain' ∧ Steps P (lone (cfr fn kind round tmps defers (.inRegion ops (i :: rest) :: k)) cs w) (lone { cfr fn kind round tmps' defers' todo with mode := .panicking chain' } cs w')
      | .jump _ => False := by
  have hnd : (∀ d, a ≠ .defer d) → (round = none ∨ ∀ c, o.op ≠ .defer c) := by
    intro hh
    right
    intro c hc
    obtain ⟨d, hd⟩ := hdef ⟨c, hc⟩
    exact hh d hd
  have hround : ctx.round.isSome = false → round = none := by
    intro hh
    rcases hc.round with ⟨-, h2⟩ | ⟨l, L, h1, -⟩
    · exact h2
    · rw [h1] at hh; cases hh
  have hcaller : kindOk .normal (cfr fn kind round tmps defers (.inRegion ops (i :: rest) :: k)) := .inl rfl
  cases a with
  | val v s' =>
    simp only [onNext, Option.some.injEq] at hr
    subst hr
    obtain ⟨ρ', w', v', h1, h2, h3, h4⟩ := hn
    exact ⟨ρ', w', _, _, h2, h3, (hf.mono h3.le).put o.dst h4, .one (st_opval ho hw (hnd (by intro d; exact ANext.noConfusion)) h1)⟩
  | skip s' =>
    simp only [onNext, Option.some.injEq] at hr
    subst hr
    obtain ⟨ρ', w', h1, h2, h3⟩ := hn
    exact ⟨ρ', w', _, _, h2, h3, (hf.mono h3.le).put o.dst undef_rel, .one (st_opunit ho hw (hnd (by intro d; exact ANext.noConfusion)) h1)⟩
  | defer d =>
    simp only [onNext] at hr
    split at hr
    · cases hr
    · rename_i hnr
      cases hr
      obtain ⟨d', h1, h2⟩ := hn
      exact ⟨ρ, w, _, _, h, Ev.refl _ _ _, (hf.defer h2).put o.dst undef_rel, .one (st_opdefer ho hw (hround (by simpa using hnr)) h1)⟩
  | recover =>
    simp only [onNext] at hr
    split at hr
    · cases hr
    · rename_i hnr
      cases hr
      exact ⟨ρ, w, _, _, h, Ev.refl _ _ _, hf.put o.dst .nilIface, .one (st_oprecover ho hw (hround (by simpa using hnr)) hc.norec hn)⟩
  | panic v =>
    simp only [onNext, Option.some.injEq] at hr
    subst hr
    obtain ⟨v', h1, h2⟩ := hn
    exact ⟨ρ, w, tmps, defers, h, Ev.refl _ _ _, hf, _, _, .cons h2 .nil, .one (st_oppanic ho hw (hnd (by intro d; exact ANext.noConfusion)) h1)⟩
  | enter f args =>
    simp only [onNext] at hr
    obtain ⟨args', fn', h1, h2, -⟩ := hn
    have hstep := st_openter (fn := fn) (kind := kind) (round := round) (defers := defers) (k := k) (cs := cs) (rest := rest) ho hw (hnd (by intro d; exact ANext.noConfusion)) h1
    split at hr
    · rename_i v s' hcl
      cases hr
      obtain ⟨ρ', w', q1, q2, v', q3, q4⟩ := hcall _ _ _ hcl ρ w args' .normal _ cs h h2 hcaller (.inl rfl)
      refine ⟨ρ', w', putT tmps o.dst v', defers, q1, q2, (hf.mono q2.le).put o.dst q3, .head hstep ?_⟩
      have := finish_cfr (fn := fn) (kind := kind) (round := round) (tmps := tmps) (defers := defers) (k := k) ops i rest v'
      rw [ho] at this
      simp only [Option.bind_some] at this
      rw [← this]; exact q4
    · rename_i chain s' hcl
      cases hr
      obtain ⟨ρ', w', q1, q2, chain', q3, q4⟩ := hcall _ _ _ hcl ρ w args' .normal _ cs h h2 hcaller (.inl rfl)
      exact ⟨ρ', w', tmps, defers, q1, q2, hf.mono q2.le, _, chain', q3, .head hstep q4⟩
    · cases hr
  | round l args =>
    simp only [onNext] at hr
    obtain ⟨L, args', h1, h2, h3⟩ := hn
    split at hr
    · rename_i v s' hcl
      cases hr
      obtain ⟨fn2, t, x, y, ρ', w', q0, q1, q2, v', q3, q4⟩ := hcall _ _ _ hcl ρ w L args' (cfr fn kind round tmps defers (.inRegion ops (i :: rest) :: k)) cs h h1 h3
      have hstep := st_opround (fn := fn) (kind := kind) (round := round) (defers := defers) (k := k) (cs := cs) (rest := rest) ho hw (hnd (by intro d; exact ANext.noConfusion)) (h2.trans q0)
      refine ⟨ρ', w', putT tmps o.dst v', defers, q1, q2, (hf.mono q2.le).put o.dst q3, .head hstep ?_⟩
      have := finish_cfr (fn := fn) (kind := kind) (round := round) (tmps := tmps) (defers := defers) (k := k) ops i rest v'
      rw [ho] at this
      simp only [Option.bind_some] at this
      rw [← this]; exact q4
    · rename_i chain s' hcl
      cases hr
      obtain ⟨fn2, t, x, y, ρ', w', q0, q1, q2, chain', q3, q4⟩ := hcall _ _ _ hcl ρ w L args' (cfr fn kind round tmps defers (.inRegion ops (i :: rest) :: k)) cs h h1 h3
      have hstep := st_opround (fn := fn) (kind := kind) (round := round) (defers := defers) (k := k) (cs := cs) (rest := rest) ho hw (hnd (by intro d; exact ANext.noConfusion)) (h2.trans q0)
      exact ⟨ρ', w', tmps, defers, q1, q2, hf.mono q2.le, _, chain', q3, .head hstep q4⟩
    · cases hr

theorem defer_is {fr : Fr} {o : Oper} {a : ANext} (h : evalOp E fr o s = some a) : (∃ c, o.op = .defer c) → (∃ d, a = .defer d) := by
  rintro ⟨c, hc⟩
  obtain ⟨dst, op, ty, pos, aft, guard⟩ := o
  subst hc
  simp only [evalOp] at h
  split at h
  · obtain ⟨v, h1, h2⟩ := one_some h
    split at h2
    · cases h2
    · cases h2; exact ⟨_, rfl⟩
    · cases h2
  · cases h

/-- OPERATIONS, IN THE TEXT's ORDER. -/
theorem opsF_ok (ok : E.Ok P) {call : ANext → St → Option (AEnd × St)} (hcall : ∀ a s r, call a s = some r → CallOk P E a s r) {ctx : Ctx} {ops : Array Oper} : ∀ (idxs : List Nat) {fr : Fr} {s : St} {r : AExit × Fr × St},
    opsF E call ctx.round.isSome ops idxs fr s = some r → From P E ctx [.inRegion ops idxs] fr s r
  | [], fr, s, r, hr => by
    intro ρ w tmps defers fn kind round k cs h hf hc
    simp only [opsF, Option.some.injEq] at hr
    subst hr
    exact ⟨ρ, w, tmps, defers, h, Ev.refl _ _ _, hf, .one st_end⟩
  | i :: rest, fr, s, r, hr => by
    intro ρ w tmps defers fn kind round k cs h hf hc
    simp only [opsF] at hr
    split at hr
    · cases hr
    rename_i o ho
    have hweq := wanted_eq hf.t ops o
    split at hr
    · rename_i hwa
      have hw : Region.wanted o (yielded ops tmps) = true := hweq ▸ hwa
      split at hr
      · rename_i a hev
        have hn := evalOp_ok ok h hf.t hev
        cases hon : onNext call ctx.round.isSome o fr s a with
        | none => rw [hon] at hr; cases hr
        | some r1 =>
          obtain ⟨ρ', w', tmps', defers', q1, q2, q3, q4⟩ := onNext_ok ok hcall (rest := rest) (k := k) ho h hf hc hw hn hon (defer_is hev)
          obtain ⟨e1, fr1, s1⟩ := r1
          rw [hon] at hr
          cases e1 with
          | normal =>
            obtain ⟨ρ2, w2, tmps2, defers2, t1, t2, t3, t4⟩ := opsF_ok ok hcall rest hr ρ' w' tmps' defers' fn kind round k cs q1 q3 (hc.mono q2.le)
            exact ⟨ρ2, w2, tmps2, defers2, t1, q2.trans t2, t3, t4.of_steps q4⟩
          | jump c => exact q4.elim
          | panic chain =>
            cases hr
            obtain ⟨todo, chain', q5, q6⟩ := q4
            exact ⟨ρ', w', tmps', defers', q1, q2, q3, todo, chain', q5, q6⟩
      · cases hr
    · rename_i hwa
      have hw : Region.wanted o (yielded ops tmps) = false := by rw [← hweq]; simpa using hwa
      obtain ⟨ρ2, w2, tmps2, defers2, t1, t2, t3, t4⟩ := opsF_ok ok hcall rest hr ρ w (putT tmps o.dst undef) defers fn kind round k cs h (hf.put o.dst undef_rel) hc
      exact ⟨ρ2, w2, tmps2, defers2, t1, t2, t3, t4.of_steps (.one (st_opskip ho hw))⟩
end
end Go.Eng

/- The abstract evaluator: whole pieces of code. -/
namespace Go.Eng
section
variable {P : Program} {E : Env}

theorem CPass.snoc {c : Code} {pre : List Item} {x : Item} (h : CPass c pre) (hx : ∀ id k, c = .exit id → exitTo id (x :: k) = exitTo id k) (hg : ∀ l k, c = .goto l → gotoIn l (x :: k) = gotoIn l k) : CPass c (pre ++ [x]) := by
  cases c <;> simp only [CPass] at h ⊢
  case exit id => intro k; rw [List.append_assoc, h]; exact hx id k rfl
  case goto l => intro k; rw [List.append_assoc, h]; exact hg l k rfl

/-- One item behind a piece of code is passed by a jump. -/
theorem Arr.pass {ρ : Ren} {m : Machine} {fn : FuncId} {kind : CallKind} {round : Option Nat} {tmps : Array Value} {defers : List Deferred} {k : List Item} {cs : List Frame} {w : World} {c : Code} {x : Item}
    (h : Arr P ρ m fn kind round tmps defers (x :: k) cs w (.jump c)) (hx : ∀ id k, c = .exit id → exitTo id (x :: k) = exitTo id k) (hg : ∀ l k, c = .goto l → gotoIn l (x :: k) = gotoIn l k) :
    Arr P ρ m fn kind round tmps defers k cs w (.jump c) := by
  obtain ⟨pre, h1, h2⟩ := h
  refine ⟨pre ++ [x], h1.snoc hx hg, ?_⟩
  simpa using h2
theorem Arr.panics {ρ : Ren} {m : Machine} {fn : FuncId} {kind : CallKind} {round : Option Nat} {tmps : Array Value} {defers : List Deferred} {k k' : List Item} {cs : List Frame} {w : World} {chain : List PanicEntry}
    (h : Arr P ρ m fn kind round tmps defers k cs w (.panic chain)) : Arr P ρ m fn kind round tmps defers k' cs w (.panic chain) := h

theorem From.steps {ctx : Ctx} {fr : Fr} {s : St} {r : AExit × Fr × St} {a b : List Item} (h : From P E ctx b fr s r)
    (hs : ∀ fn kind round tmps defers k cs w, Steps P (lone (cfr fn kind round tmps defers (a ++ k)) cs w) (lone (cfr fn kind round tmps defers (b ++ k)) cs w)) : From P E ctx a fr s r := by
  intro ρ w tmps defers fn kind round k cs h1 h2 h3
  obtain ⟨ρ', w', tmps', defers', q1, q2, q3, q4⟩ := h ρ w tmps defers fn kind round k cs h1 h2 h3
  exact ⟨ρ', w', tmps', defers', q1, q2, q3, q4.of_steps (hs _ _ _ _ _ _ _ _)⟩

variable {exec : Ctx → Code → Fr → St → Out} {call : ANext → St → Option (AEnd × St)}

/-- From a piece of code and what follows it. -/
theorem From.andThen {ctx : Ctx} {a : Item} {b : List Item} {fr : Fr} {s : St} {fr1 : Fr} {s1 : St} {r : AExit × Fr × St} (h1 : From P E ctx [a] fr s (.normal, fr1, s1)) (h2 : From P E ctx b fr1 s1 r) : From P E ctx (a :: b) fr s r := by
  intro ρ w tmps defers fn kind round k cs q1 q2 q3
  obtain ⟨ρ1, w1, tmps1, defers1, t1, t2, t3, t4⟩ := h1 ρ w tmps defers fn kind round (b ++ k) cs q1 q2 q3
  obtain ⟨ρ2, w2, tmps2, defers2, u1, u2, u3, u4⟩ := h2 ρ1 w1 tmps1 defers1 fn kind round k cs t1 t3 (q3.mono t2.le)
  exact ⟨ρ2, w2, tmps2, defers2, u1, t2.trans u2, u3, u4.of_steps t4⟩
/-- A jump (or a panic) passes what follows. -/
theorem From.leaves {ctx : Ctx} {a x : Item} {fr : Fr} {s : St} {r : AExit × Fr × St} (h : From P E ctx [a] fr s r) (hn : r.1 ≠ .normal)
    (hx : ∀ id k, r.1 = .jump (.exit id) → exitTo id (x :: k) = exitTo id k) (hg : ∀ l k, r.1 = .jump (.goto l) → gotoIn l (x :: k) = gotoIn l k) : From P E ctx [a, x] fr s r := by
  intro ρ w tmps defers fn kind round k cs q1 q2 q3
  obtain ⟨ρ1, w1, tmps1, defers1, t1, t2, t3, t4⟩ := h ρ w tmps defers fn kind round (x :: k) cs q1 q2 q3
  refine ⟨ρ1, w1, tmps1, defers1, t1, t2, t3, ?_⟩
  obtain ⟨e, fr', s'⟩ := r
  cases e with
  | normal => exact absurd rfl hn
  | jump c => exact Arr.pass t4 (fun id k hc => hx id k (by rw [hc])) (fun l k hc => hg l k (by rw [hc]))
  | panic chain => exact t4

theorem AExit.cases_normal (e : AExit) : e = .normal ∨ e ≠ .normal := by cases e <;> first | exact .inl rfl | exact .inr (by intro h; cases h)

section
variable (ok : E.Ok P) (hexec : ∀ ctx c fr s r, exec ctx c fr s = some r → From P E ctx [.code c] fr s r) (hcall : ∀ a s r, call a s = some r → CallOk P E a s r)
include hexec

theorem seqF_ok {ctx : Ctx} {a b : Code} {fr : Fr} {s : St} {r : AExit × Fr × St} (hr : (match exec ctx a fr s with
    | some (.normal, fr, s) => exec ctx b fr s
    | r => r) = some r) : From P E ctx [.code (.seq a b)] fr s r := by
  have hst : ∀ (fn : FuncId) kind round tmps defers (k : List Item) cs w, Steps P (lone (cfr fn kind round tmps defers ([.code (.seq a b)] ++ k)) cs w) (lone (cfr fn kind round tmps defers ([.code a, .code b] ++ k)) cs w) :=
    fun _ _ _ _ _ _ _ _ => .one st_seq
  cases ha : exec ctx a fr s with
  | none => rw [ha] at hr; cases hr
  | some r1 =>
    obtain ⟨e1, fr1, s1⟩ := r1
    have h1 := hexec _ _ _ _ _ ha
    rw [ha] at hr
    rcases AExit.cases_normal e1 with rfl | hne
    · exact (h1.andThen (hexec _ _ _ _ _ hr)).steps hst
    · have : r = (e1, fr1, s1) := by cases e1 <;> first | exact absurd rfl hne | (cases hr; rfl)
      subst this
      exact (h1.leaves hne (fun _ _ _ => rfl) (fun _ _ _ => rfl)).steps hst

theorem blockF_ok {ctx : Ctx} {id : Nat} {c : Code} {fr : Fr} {s : St} {r : AExit × Fr × St} (hr : (match exec ctx c fr s with
    | some (.jump (.exit i), fr, s) => if i = id then some (.normal, fr, s) else some (.jump (.exit i), fr, s)
    | r => r) = some r) : From P E ctx [.code (.block id c)] fr s r := by
  have hst : ∀ (fn : FuncId) kind round tmps defers (k : List Item) cs w, Steps P (lone (cfr fn kind round tmps defers ([.code (.block id c)] ++ k)) cs w) (lone (cfr fn kind round tmps defers ([.code c, .inBlock id] ++ k)) cs w) :=
    fun _ _ _ _ _ _ _ _ => .one st_block
  have hpop : ∀ (fr : Fr) (s : St), From P E ctx [.inBlock id] fr s (.normal, fr, s) := fun fr s ρ w tmps defers fn kind round k cs q1 q2 q3 =>
    ⟨ρ, w, tmps, defers, q1, Ev.refl _ _ _, q2, .one st_inBlock⟩
  cases ha : exec ctx c fr s with
  | none => rw [ha] at hr; cases hr
  | some r1 =>
    obtain ⟨e1, fr1, s1⟩ := r1
    have h1 := hexec _ _ _ _ _ ha
    rw [ha] at hr
    cases e1 with
    | normal => cases hr; exact (h1.andThen (hpop _ _)).steps hst
    | panic chain => cases hr; exact (h1.leaves (x := .inBlock id) (by intro h; cases h) (fun _ _ h => by cases h) (fun _ _ h => by cases h)).steps hst
    | jump j =>
      by_cases hj : j = .exit id
      · subst hj
        simp only [if_true, Option.some.injEq] at hr
        subst hr
        intro ρ w tmps defers fn kind round k cs q1 q2 q3
        obtain ⟨ρ1, w1, tmps1, defers1, t1, t2, t3, pre, t4, t5⟩ := h1 ρ w tmps defers fn kind round (.inBlock id :: k) cs q1 q2 q3
        refine ⟨ρ1, w1, tmps1, defers1, t1, t2, t3, ?_⟩
        refine ((hst _ _ _ _ _ k _ _).trans t5).trans (.one (st_exit ?_))
        have := t4 (.inBlock id :: k)
        show exitTo id (pre ++ .inBlock id :: k) = some k
        rw [this]
        simp [exitTo]
      · have hrr : r = (.jump j, fr1, s1) := by
          cases j <;> first | (cases hr; rfl) | skip
          rename_i i
          have hi : ¬ i = id := fun hh => hj (by rw [hh])
          simp only [hi, if_false, Option.some.injEq] at hr
          exact hr.symm
        subst hrr
        refine (h1.leaves (x := .inBlock id) (by intro h; cases h) ?_ (fun _ _ _ => rfl)).steps hst
        intro i k hi
        simp only [AExit.jump.injEq] at hi
        have hne : ¬ id = i := fun hh => hj (by rw [hi, hh])
        simp [exitTo, hne]

theorem loopF_ok {ctx : Ctx} {c : Code} : ∀ (n : Nat) {fr : Fr} {s : St} {r : AExit × Fr × St}, loopF exec ctx c n fr s = some r → From P E ctx [.code c, .inLoop c] fr s r
  | 0, _, _, _, hr => by cases hr
  | n + 1, fr, s, r, hr => by
    simp only [loopF] at hr
    cases ha : exec ctx c fr s with
    | none => rw [ha] at hr; cases hr
    | some r1 =>
      obtain ⟨e1, fr1, s1⟩ := r1
      have h1 := hexec _ _ _ _ _ ha
      rw [ha] at hr
      rcases AExit.cases_normal e1 with rfl | hne
      · have h2 : From P E ctx [.inLoop c] fr1 s1 r := (loopF_ok n hr).steps (fun _ _ _ _ _ _ _ _ => .one st_inLoop)
        exact h1.andThen h2
      · have : r = (e1, fr1, s1) := by cases e1 <;> first | exact absurd rfl hne | (cases hr; rfl)
        subst this
        exact h1.leaves hne (fun _ _ _ => rfl) (fun _ _ _ => rfl)

theorem scopeF_ok {ctx : Ctx} {whole : Code} : ∀ (n : Nat) {c : Code} {fr : Fr} {s : St} {r : AExit × Fr × St}, scopeF exec ctx whole n c fr s = some r → From P E ctx [.code c, .inScope whole] fr s r
  | 0, _, _, _, _, hr => by cases hr
  | n + 1, c, fr, s, r, hr => by
    simp only [scopeF] at hr
    have hpop : ∀ (fr : Fr) (s : St), From P E ctx [.inScope whole] fr s (.normal, fr, s) := fun fr s ρ w tmps defers fn kind round k cs q1 q2 q3 =>
      ⟨ρ, w, tmps, defers, q1, Ev.refl _ _ _, q2, .one st_inScope⟩
    cases ha : exec ctx c fr s with
    | none => rw [ha] at hr; cases hr
    | some r1 =>
      obtain ⟨e1, fr1, s1⟩ := r1
      have h1 := hexec _ _ _ _ _ ha
      rw [ha] at hr
      cases e1 with
      | normal => cases hr; exact h1.andThen (hpop _ _)
      | panic chain => cases hr; exact h1.leaves (x := .inScope whole) (by intro h; cases h) (fun _ _ h => by cases h) (fun _ _ h => by cases h)
      | jump j =>
        by_cases hj : ∃ l, j = .goto l
        · obtain ⟨l, rfl⟩ := hj
          simp only at hr
          cases hl : findLabel whole l with
          | some rest =>
            rw [hl] at hr
            have h2 := scopeF_ok n hr
            intro ρ w tmps defers fn kind round k cs q1 q2 q3
            obtain ⟨ρ1, w1, tmps1, defers1, t1, t2, t3, pre, t4, t5⟩ := h1 ρ w tmps defers fn kind round (.inScope whole :: k) cs q1 q2 q3
            obtain ⟨ρ2, w2, tmps2, defers2, u1, u2, u3, u4⟩ := h2 ρ1 w1 tmps1 defers1 fn kind round k cs t1 t3 (q3.mono t2.le)
            refine ⟨ρ2, w2, tmps2, defers2, u1, t2.trans u2, u3, u4.of_steps (t5.trans (.one (st_goto ?_)))⟩
            have := t4 (.inScope whole :: k)
            show gotoIn l (pre ++ .inScope whole :: k) = _
            rw [this]
            simp [gotoIn, hl]
          | none =>
            rw [hl] at hr
            cases hr
            refine h1.leaves (x := .inScope whole) (by intro h; cases h) (fun _ _ h => by cases h) ?_
            intro l' k hl'
            simp only [AExit.jump.injEq, Code.goto.injEq] at hl'
            subst hl'
            simp [gotoIn, hl]
        · have hrr : r = (.jump j, fr1, s1) := by
            cases j <;> first | (cases hr; rfl) | skip
            exact absurd ⟨_, rfl⟩ hj
          subst hrr
          refine h1.leaves (x := .inScope whole) (by intro h; cases h) (fun _ _ _ => rfl) ?_
          intro l k hl
          simp only [AExit.jump.injEq] at hl
          exact absurd ⟨l, hl⟩ hj
end

/-! ### the smaller ones -/
theorem From.now {ctx : Ctx} {c : Code} {fr : Fr} {s : St} (hs : ∀ fn kind round tmps defers k cs w, step P (lone (cfr fn kind round tmps defers (.code c :: k)) cs w) = .next (lone (cfr fn kind round tmps defers k) cs w)) : From P E ctx [.code c] fr s (.normal, fr, s) :=
  fun ρ w tmps defers fn kind round k cs q1 q2 q3 => ⟨ρ, w, tmps, defers, q1, Ev.refl _ _ _, q2, .one (hs _ _ _ _ _ _ _ _)⟩
theorem From.jumps {ctx : Ctx} {c : Code} {fr : Fr} {s : St} (hc : CPass c []) : From P E ctx [.code c] fr s (.jump c, fr, s) :=
  fun ρ w tmps defers fn kind round k cs q1 q2 q3 => ⟨ρ, w, tmps, defers, q1, Ev.refl _ _ _, q2, [], hc, Steps.refl _ _⟩
end
end Go.Eng

/- The abstract evaluator: activations. -/
namespace Go.Eng
section
variable {P : Program} {E : Env}

/-- A returning frame. -/
def rfr (fn : FuncId) (kind : CallKind) (tmps : Array Value) (defers : List Deferred) (todo : List Item) : Frame :=
  { fn, tmps, todo, defers, mode := .returning, kind, roundOf := none }

section
variable {fn : FuncId} {kind : CallKind} {tmps : Array Value} {defers : List Deferred} {k : List Item} {cs : List Frame} {w : World}
theorem st_leave_end : step P (lone (cfr fn kind none tmps defers []) cs w) = .next (lone (rfr fn kind tmps defers []) cs w) :=
  step_lone_go (by simp [stepG, stepG.exec, cfr, rfr])
theorem st_leave_ret : step P (lone (cfr fn kind none tmps defers (.code .ret :: k)) cs w) = .next (lone (rfr fn kind tmps defers (.code .ret :: k)) cs w) :=
  step_lone_go (by simp [stepG, stepG.exec, cfr, rfr])
theorem st_collected {b : Nat} {a : Array Value} {ds calls : List Deferred} {w' : World} (h : (Instr.takeDeferred b).run P w = .ok calls w') :
    step P (lone (rfr fn kind tmps (⟨.collected b, a⟩ :: ds) k) cs w) = .next (lone (rfr fn kind tmps (calls ++ ds) k) cs w') :=
  step_lone_go (by simp [stepG, unwind, rfr, h])
theorem st_deferred {f : Fn} {c a : Array Value} {ds : List Deferred} {g : FuncId} {args : Array Value} {w' : World} (h : (invoke (.fn f c) a).run P w = .ok (.enter g args) w') :
    step P (lone (rfr fn kind tmps (⟨.fn f c, a⟩ :: ds) k) cs w) = .next (lone (Frame.enter P g args .deferred) (rfr fn kind tmps ds k :: cs) w') :=
  step_lone_go (by simp [stepG, unwind, rfr, callDeferred, h])
theorem st_return {c : Frame} {f : Func} (hf : P.funcs[fn]? = some f) (hk : kindOk kind c) {v : Value} (h : (results f tmps).run P w = .ok v w) :
    step P (lone (rfr fn kind tmps [] k) (c :: cs) w) = .next (lone (handed kind c v) cs w) := by
  rcases hk with rfl | ⟨rfl, hm⟩
  · exact step_lone_go (by simp [stepG, unwind, rfr, hf, h, doReturn, handed])
  · exact step_lone_go (by simp [stepG, unwind, rfr, hf, h, doReturn, handed, hm])
theorem st_unwind {c : Frame} {f : Func} (hf : P.funcs[fn]? = some f) {chain : List PanicEntry} :
    step P (lone { cfr fn kind none tmps [] k with mode := .panicking chain } (c :: cs) w) = .next (lone (c.raise chain) cs w) :=
  step_lone_go (by simp [stepG, unwind, cfr, hf, Frame.catches])
end

section
variable {ρ : Ren} {s : St} {w : World}

theorem DRels.nil_inv {l : List Deferred} (h : DRels ρ [] l) : l = [] := by cases h; rfl

theorem defersF_ok (ok : E.Ok P) {call : ANext → St → Option (AEnd × St)} (hcall : ∀ a s r, call a s = some r → CallOk P E a s r) {fn : FuncId} {kind : CallKind} {tmps : Array Value} {k : List Item} {cs : List Frame} :
    ∀ (n : Nat) {ds ds' : List Deferred} {ρ : Ren} {s s' : St} {w : World}, defersF E call n ds s = some s' → Rel E ρ s w → DRels ρ ds ds' →
      ∃ ρ' w', Rel E ρ' s' w' ∧ Ev ρ s w ρ' s' w' ∧ Steps P (lone (rfr fn kind tmps ds' k) cs w) (lone (rfr fn kind tmps [] k) cs w')
  | n, [], ds', ρ, s, s', w, hr, h, hd => by
    have : s' = s := by cases n <;> (simp only [defersF, Option.some.injEq] at hr; exact hr.symm)
    subst this
    obtain rfl := hd.nil_inv
    exact ⟨ρ, w, h, Ev.refl _ _ _, Steps.refl _ _⟩
  | 0, d :: ds, ds', ρ, s, s', w, hr, h, hd => by simp [defersF] at hr
  | n + 1, d :: ds, ds', ρ, s, s', w, hr, h, hd => by
    cases hd with
    | cons hd hs =>
      simp only [defersF] at hr
      cases hd with
      | collected hρ =>
        rename_i l' b L a a'
        simp only at hr
        split at hr
        · rename_i ds2 hb
          obtain ⟨o, o', h1, h2, h3⟩ := h.obj _ _ _ hρ
          rw [hb] at h1; cases h1
          cases o' <;> simp only [ORel] at h3
          rename_i calls
          cases calls with
          | none => exact h3.elim
          | some calls =>
            obtain ⟨-, h3⟩ := h3
            have hset := h.setOther hρ hb (fun hi L o' ho => by
              cases o' <;> simp only [ORel] at ho
              rename_i c; cases c <;> simp only [ORel] at ho; exact ho.1) h2 (.deferred none) (.deferred none) (by simp only [ORel])
            obtain ⟨ρ', w', q1, q2, q3⟩ := defersF_ok ok hcall n hr hset.1 (h3.append hs)
            refine ⟨ρ', w', q1, hset.2.trans q2, .head (st_collected (w' := { w with heap := w.heap.setIfInBounds L.c (.deferred none) }) ?_) q3⟩
            simp only [Instr.takeDeferred, Sem.run_bind, run_getObj_of (P := P) h2 (by intro a b d hh; cases hh), Result.andThen_ok, run_setObj_of (P := P) h2 (by intro a b d hh; cases hh), Sem.run_pure]
        · cases hr
      | fn f hn hc ha =>
        rename_i l' c c' a a'
        simp only at hr
        split at hr
        · rename_i g args hcv
          split at hr
          · cases hr
          rename_i horcn
          have horcn : E.orc g args s = none := by simpa using horcn
          split at hr
          · rename_i v s2 hcl
            have hfun : VRel ρ (.func f #[] c) (.func f #[] c') := .func f hn .nil hc
            have := callV_ok (P := P) ok h hfun ha hcv
            obtain ⟨args', fn', t1, t2, -⟩ := this
            have t1' : (invoke (.fn f c') a').run P w = .ok (.enter g args'.toArray) w := by
              rw [← t1]
              simp only [Deferred.ofValue, Sem.run_bind, Sem.run_pure, Result.andThen_ok]
              congr 2
              apply Array.ext'; simp
            obtain ⟨ρ1, w1, q1, q2, v', q3, q4⟩ := hcall _ _ _ hcl ρ w args' .deferred (rfr fn kind tmps l' k) cs h t2 (.inr ⟨rfl, rfl⟩) (.inr horcn)
            obtain ⟨ρ2, w2, u1, u2, u3⟩ := defersF_ok ok hcall n hr q1 (hs.mono q2.le)
            exact ⟨ρ2, w2, u1, q2.trans u2, .head (st_deferred t1') (Steps.trans q4 u3)⟩
          · cases hr
        · cases hr

def resOf (tmps : Array Value) : ResultVar → Sem Value
  | .tmp t => pure (tmps.getD t undef)
  | .cell a t => do loadVar t (← asAddr (tmps.getD a undef))
theorem results_eq (f : Func) (tmps : Array Value) : results f tmps = (do let vs ← f.results.mapM (resOf tmps); pure (if h : vs.size = 1 then vs[0] else .tuple vs)) := by
  unfold results
  congr 1

theorem resultsL_ok (ok : E.Ok P) (h : Rel E ρ s w) {fr : Fr} {tmps : Array Value} (hf : TRel ρ fr.t fr.n tmps) : ∀ {rs : List ResultVar} {vs : List Value}, resultsV E s fr rs = some vs →
    ∃ vs', (rs.mapM (resOf tmps)).run P w = .ok vs' w ∧ VRels ρ vs vs'
  | [], vs, hr => by cases hr; exact ⟨[], by simp, .nil⟩
  | .tmp t :: rs, vs, hr => by
    simp only [resultsV] at hr
    cases hq : resultsV E s fr rs with
    | none => rw [hq] at hr; cases hr
    | some vs0 =>
      rw [hq] at hr; cases hr
      obtain ⟨vs', h1, h2⟩ := resultsL_ok ok h hf hq
      exact ⟨_, by rw [List.mapM_cons, Sem.run_bind]; simp only [resOf, Sem.run_pure, Result.andThen_ok, Sem.run_bind, h1], .cons (hf.v t) h2⟩
  | .cell a t :: rs, vs, hr => by
    simp only [resultsV] at hr
    have hv := hf.v a
    have hv' : VRel ρ (fr.tmp a) (tmps.getD a undef) := hv
    split at hr
    · rename_i p hp
      rw [hp] at hv'
      split at hr
      · rename_i v vs0 hl hq
        cases hr
        obtain ⟨vs', h1, h2⟩ := resultsL_ok ok h hf hq
        generalize hu : tmps.getD a undef = u at hv'
        cases hv'
        rename_i b o hi L hρ
        obtain ⟨v', h3, h4⟩ := loadV_ok (P := P) ok h hρ hl
        refine ⟨v' :: vs', ?_, .cons h4 h2⟩
        rw [List.mapM_cons, Sem.run_bind]
        simp only [resOf, hu, asAddr, Sem.run_bind, Sem.run_pure, Result.andThen_ok, h3, h1]
      · cases hr
    · cases hr

theorem tupled_rel {vs vs' : List Value} (h : VRels ρ vs vs') : VRel ρ (tupled vs) (tupled vs') := by
  unfold tupled
  cases h with
  | nil => exact .tuple .nil
  | cons a b =>
    cases b with
    | nil => exact a
    | cons c d => exact .tuple (.cons a (.cons c d))

theorem results_ok (ok : E.Ok P) (h : Rel E ρ s w) {fr : Fr} {tmps : Array Value} (hf : TRel ρ fr.t fr.n tmps) {f : Func} {vs : List Value} (hr : resultsV E s fr f.results.toList = some vs) :
    ∃ v', (results f tmps).run P w = .ok v' w ∧ VRel ρ (tupled vs) v' := by
  obtain ⟨vs', h1, h2⟩ := resultsL_ok (P := P) ok h hf hr
  refine ⟨tupled vs', ?_, tupled_rel h2⟩
  rw [results_eq, Sem.run_bind, Array.mapM_eq_mapM_toList, Sem.run_map, h1]
  simp only [Result.andThen_ok, Sem.run_pure]
  congr 1
  unfold tupled
  cases vs' with
  | nil => rfl
  | cons a l =>
    cases l with
    | nil => rfl
    | cons b l => simp

theorem trel_args {args args' : List Value} (h : VRels ρ args args') (n : Nat) : TRel ρ (F.ofList args) (max args.length n) (args'.toArray ++ Array.replicate (n - args'.toArray.size) undef) := by
  refine ⟨?_, ?_⟩
  · simp only [Array.size_append, List.size_toArray, Array.size_replicate]
    rw [h.length_eq]; omega
  · intro i
    rw [F.get_ofList]
    have hlen := h.length_eq
    cases hq : args[i]? with
    | none =>
      have hge : args.length ≤ i := List.getElem?_eq_none_iff.1 hq
      have : (args'.toArray ++ Array.replicate (n - args'.toArray.size) undef).getD i undef = undef := by
        rw [Array.getD_eq_getD_getElem?, Array.getElem?_append]
        rw [if_neg (by simp; omega)]
        rw [Array.getElem?_replicate]
        split <;> rfl
      rw [this, List.getD_eq_getElem?_getD, hq]; exact undef_rel
    | some v =>
      obtain ⟨v', h1, h2⟩ := h.get i v hq
      have hlt : i < args'.length := (List.getElem?_eq_some_iff.1 h1).1
      have : (args'.toArray ++ Array.replicate (n - args'.toArray.size) undef).getD i undef = v' := by
        rw [Array.getD_eq_getD_getElem?, Array.getElem?_append]
        rw [if_pos (by simpa using hlt)]
        simp [h1]
      rw [this, List.getD_eq_getElem?_getD, hq]; exact h2

theorem enter_eq {f : FuncId} {fn : Func} {body : Code} (hf : P.funcs[f]? = some fn) (hb : fn.body = some body) (args : Array Value) (kind : CallKind) :
    Frame.enter P f args kind = cfr f kind none (args ++ Array.replicate (fn.ntmps - args.size) undef) [] [.code body] := by
  simp [Frame.enter, hf, hb, cfr]

/-- Every oracle tells the truth. -/
def Env.True (E : Env) (P : Program) : Prop := ∀ f args s v s', E.orc f args s = some (v, s') → ∀ ρ w args' c cs, Rel E ρ s w → VRels ρ args args' →
  ∃ ρ' w', Rel E ρ' s' w' ∧ Ev ρ s w ρ' s' w' ∧ Gives P ρ' (lone (Frame.enter P f args'.toArray .normal) (c :: cs) w) .normal c cs w' (.ret v)

/-- A CALL. -/
theorem enterF_ok (ok : E.Ok P) {exec : Ctx → Code → Fr → St → Out} {call : ANext → St → Option (AEnd × St)} (horc : E.True P)
    (hexec : ∀ ctx c fr s r, exec ctx c fr s = some r → From P E ctx [.code c] fr s r) (hcall : ∀ a s r, call a s = some r → CallOk P E a s r) {f : FuncId} {args : List Value} {r : AEnd × St}
    (hr : enterF E exec call f args s = some r) : CallOk P E (.enter f args) s r := by
  unfold enterF at hr
  split at hr
  · rename_i v s' ho
    cases hr
    intro ρ w args' kind c cs h ha hk hn
    rcases hn with rfl | hn
    · exact horc _ _ _ _ _ ho ρ w args' c cs h ha
    · rw [ho] at hn; cases hn
  split at hr
  case h_2 => cases hr
  rename_i fn hfn
  have hP := ok.ft f fn hfn
  split at hr
  case h_2 => cases hr
  rename_i body hb
  intro ρ w args' kind c cs h ha hk hn
  have hctx : CtxOk ρ ⟨f, none⟩ f kind none (c :: cs) := ⟨rfl, .inl ⟨rfl, rfl⟩, by
    rcases hk with hk | ⟨hk, hm⟩
    · exact .inl hk
    · exact .inr ⟨hk, c, cs, rfl, hm⟩⟩
  have hfr : FRel ρ ⟨F.ofList args, max args.length fn.ntmps, []⟩ (args'.toArray ++ Array.replicate (fn.ntmps - args'.toArray.size) undef) [] := ⟨trel_args ha fn.ntmps, .nil⟩
  rw [enter_eq hP hb]
  -- once it returns
  have fin : ∀ {ρ1 : Ren} {w1 : World} {fr1 : Fr} {s1 : St} {tmps1 : Array Value} {defers1 : List Deferred} {todo : List Item}, Rel E ρ1 s1 w1 → Ev ρ s w ρ1 s1 w1 → FRel ρ1 fr1 tmps1 defers1 → leaveF E call fn fr1 s1 = some r →
      ∃ ρ' w', Rel E ρ' r.2 w' ∧ Ev ρ s w ρ' r.2 w' ∧ Gives P ρ' (lone (rfr f kind tmps1 defers1 todo) (c :: cs) w1) kind c cs w' r.1 := by
    intro ρ1 w1 fr1 s1 tmps1 defers1 todo q1 q2 q3 hl
    unfold leaveF at hl
    split at hl
    · rename_i s2 hd
      split at hl
      · rename_i vs hvs
        cases hl
        obtain ⟨ρ2, w2, u1, u2, u3⟩ := defersF_ok ok hcall (fn := f) (kind := kind) (tmps := tmps1) (k := todo) (cs := c :: cs) _ hd q1 q3.d
        obtain ⟨v', t1, t2⟩ := results_ok (P := P) ok u1 (q3.mono u2.le).t hvs
        exact ⟨ρ2, w2, u1, q2.trans u2, v', t2, u3.trans (.one (st_return hP hk t1))⟩
      · cases hl
    · cases hl
  split at hr
  · rename_i fr1 s1 hx
    obtain ⟨ρ1, w1, tmps1, defers1, q1, q2, q3, q4⟩ := hexec _ _ _ _ _ hx ρ w _ [] f kind none [] (c :: cs) h hfr hctx
    obtain ⟨ρ', w', u1, u2, u3⟩ := fin (todo := []) q1 q2 q3 hr
    refine ⟨ρ', w', u1, u2, ?_⟩
    have hs := Steps.trans q4 (.one (st_leave_end (P := P)))
    obtain ⟨e, s2⟩ := r
    cases e with
    | ret v => obtain ⟨v', t1, t2⟩ := u3; exact ⟨v', t1, hs.trans t2⟩
    | panic ch => obtain ⟨ch', t1, t2⟩ := u3; exact ⟨ch', t1, hs.trans t2⟩
  · rename_i fr1 s1 hx
    obtain ⟨ρ1, w1, tmps1, defers1, q1, q2, q3, pre, -, q4⟩ := hexec _ _ _ _ _ hx ρ w _ [] f kind none [] (c :: cs) h hfr hctx
    obtain ⟨ρ', w', u1, u2, u3⟩ := fin (todo := .code .ret :: pre ++ []) q1 q2 q3 hr
    refine ⟨ρ', w', u1, u2, ?_⟩
    have hs := Steps.trans q4 (.one (st_leave_ret (P := P)))
    obtain ⟨e, s2⟩ := r
    cases e with
    | ret v => obtain ⟨v', t1, t2⟩ := u3; exact ⟨v', t1, hs.trans t2⟩
    | panic ch => obtain ⟨ch', t1, t2⟩ := u3; exact ⟨ch', t1, hs.trans t2⟩
  · rename_i chain fr1 s1 hx
    split at hr
    · rename_i hd
      cases hr
      obtain ⟨ρ1, w1, tmps1, defers1, q1, q2, q3, todo, chain', q4, q5⟩ := hexec _ _ _ _ _ hx ρ w _ [] f kind none [] (c :: cs) h hfr hctx
      have hd0 : defers1 = [] := by
        have := q3.d
        rw [List.isEmpty_iff.1 hd] at this
        exact this.nil_inv
      subst hd0
      exact ⟨ρ1, w1, q1, q2, chain', q4, q5.trans (.one (st_unwind hP))⟩
    · cases hr
  · cases hr
end
end
end Go.Eng

/- The abstract evaluator: ranging over a function. -/
namespace Go.Eng
section
variable {P : Program} {E : Env}

section
variable {fn : FuncId} {kind : CallKind} {round : Option Nat} {tmps : Array Value} {defers : List Deferred} {k : List Item} {cs : List Frame} {w : World}
theorem st_begin {l : Nat} {w' : World} (h : (Instr.beginRound l).run P w = .ok () w') :
    step P (lone (cfr fn kind (some l) tmps defers (.beginRound :: k)) cs w) = .next (lone (cfr fn kind (some l) tmps defers k) cs w') :=
  step_lone_go (by simp [stepG, stepG.exec, stepG.apply, cfr, h, Frame.finish])
theorem st_round_end {l : Nat} {c : Frame} {v : Value} {w' : World} (h : (Instr.endRound l none).run P w = .ok v w') :
    step P (lone (cfr fn .normal (some l) tmps defers []) (c :: cs) w) = .next (lone (c.finish v) cs w') :=
  step_lone_go (by simp [stepG, stepG.exec, cfr, h, doReturn])
theorem st_round_jump {l : Nat} {c : Frame} {v : Value} {w' : World} {j : Code} {pre : List Item} (hj : CPass j pre) (h : (Instr.endRound l (some j)).run P w = .ok v w') :
    step P (lone (cfr fn .normal (some l) tmps defers (.code j :: pre ++ [])) (c :: cs) w) = .next (lone (c.finish v) cs w') := by
  cases j <;> simp only [CPass] at hj
  case ret => exact step_lone_go (by simp [stepG, stepG.exec, cfr, h, doReturn])
  case exit id =>
    have hn : exitTo id (pre ++ []) = none := by rw [hj]; rfl
    simp only [List.append_nil] at hn
    exact step_lone_go (by simp [stepG, stepG.exec, cfr, h, doReturn, hn])
  case goto l2 =>
    have hn : gotoIn l2 (pre ++ []) = none := by rw [hj]; rfl
    simp only [List.append_nil] at hn
    exact step_lone_go (by simp [stepG, stepG.exec, cfr, h, doReturn, hn])
theorem st_rangeFunc {f : Operand} {ps : Array Tmp} {as bo : Code} {l : Nat} {mark : List Deferred} {w1 : World} (h : (Instr.enterLoop fn tmps ps as bo round).run P w = .ok (l, mark) w1) {g : FuncId} {args : Array Value}
    (hc : (do let d ← Deferred.ofValue (cev tmps f) #[.func (.yield l) #[] #[]]; invoke d.target d.args : Sem Next).run P w1 = .ok (.enter g args) w1) :
    step P (lone (cfr fn kind round tmps defers (.code (.rangeFunc f ps as bo) :: k)) cs w) = .next (lone (Frame.enter P g args .normal) (cfr fn kind round tmps (mark ++ defers) (.inRangeFunc l :: k) :: cs) w1) :=
  step_lone_go (by
    have he := congrFun (eval_cfr fn kind round tmps (mark ++ defers) (.inRangeFunc l :: k)) f
    simp only [cfr] at he
    simp only [Sem.run_bind] at hc
    have hmap : (#[Operand.const (.func (.yield l) #[] #[])] : Array Operand).map (cfr fn kind round tmps (mark ++ defers) (.inRangeFunc l :: k)).eval = #[.func (.yield l) #[] #[]] := by
      apply Array.ext'; simp; rfl
    simp only [cfr] at hmap
    simp only [stepG, stepG.exec, cfr, Sem.runT_eq, h, GStep.bare_after, stepG.apply, if_true, resolve, Sem.run_bind, he, hmap, hc]
    rfl)
theorem st_endRange {l : Nat} {jump : Option Code} {w' : World} (h : (Instr.endLoop l).run P w = .ok jump w') :
    step P (lone (cfr fn kind round tmps defers (.endRangeFunc l :: k)) cs w) = .next (lone (cfr fn kind round tmps defers ((jump.map Item.code).toList ++ k)) cs w') :=
  step_lone_go (by simp [stepG, stepG.exec, cfr, h])
end

section
variable {ρ : Ren} {s : St} {w : World}

theorem Rel.loopObj (h : Rel E ρ s w) {b : Nat} {L : Loc} (e : ρ b 0 = some L) {st : LoopState} {pe : Option Code} {fn : FuncId} {t : F} {n : Nat} {ps : List Tmp} {as bo : Code} {de : Nat}
    (hb : s.h.get b = some (.loop st pe fn t n ps as bo de)) : ∃ r : Loop, w.heap[L.c]? = some (.loop r) ∧ r.state = st ∧ r.pending = pe ∧ r.fn = fn ∧ TRel ρ t n r.tmps ∧ r.params.toList = ps ∧ r.assign = as ∧ r.body = bo ∧ ∃ L', ρ de 0 = some L' ∧ r.defers = L'.c := by
  obtain ⟨o, o', h1, h2, h3⟩ := h.obj b 0 L e
  rw [hb] at h1; cases h1
  cases o' <;> simp only [ORel] at h3
  exact ⟨_, h2, h3.2⟩

theorem run_getLoop' {l : Nat} {r : Loop} (h : w.heap[l]? = some (.loop r)) : (Instr.getLoop l).run P w = .ok r w := by
  simp only [Instr.getLoop, Sem.run_bind, run_getObj_of (P := P) h (by intro a b d hh; cases hh), Result.andThen_ok, Sem.run_pure]

theorem Rel.setLoop (h : Rel E ρ s w) {b : Nat} {L : Loc} (e : ρ b 0 = some L) {st : LoopState} {pe : Option Code} {fn : FuncId} {t : F} {n : Nat} {ps : List Tmp} {as bo : Code} {de : Nat}
    (hb : s.h.get b = some (.loop st pe fn t n ps as bo de)) {r : Loop} (hr : w.heap[L.c]? = some (.loop r)) (st2 : LoopState) (pe2 : Option Code) :
    Rel E ρ (s.put b (.loop st2 pe2 fn t n ps as bo de)) { w with heap := w.heap.setIfInBounds L.c (.loop { r with state := st2, pending := pe2 }) } ∧
    Ev ρ s w ρ (s.put b (.loop st2 pe2 fn t n ps as bo de)) { w with heap := w.heap.setIfInBounds L.c (.loop { r with state := st2, pending := pe2 }) } := by
  obtain ⟨r', h1, h2, h3, h4⟩ := h.loopObj e hb
  rw [hr] at h1; cases h1
  refine h.setOther e hb (fun hi L o' ho => by cases o' <;> simp only [ORel] at ho; exact ho.1) hr _ _ ?_
  exact ⟨rfl, rfl, rfl, h4⟩

theorem fold_put_ok : ∀ {ps : List Tmp} {args args' : List Value}, VRels ρ args args' → ∀ {fr : Fr} {tmps : Array Value} {defers : List Deferred}, FRel ρ fr tmps defers →
    FRel ρ ((ps.zip args).foldl (fun fr x => fr.put (some x.1) x.2) fr) ((ps.zip args').foldl (fun tmps x => tmps.setIfInBounds x.1 x.2) tmps) defers
  | [], _, _, _, fr, tmps, defers, hf => by simpa using hf
  | p :: ps, _, _, .nil, fr, tmps, defers, hf => by simpa using hf
  | p :: ps, _, _, .cons h hs, fr, tmps, defers, hf => by
    simp only [List.zip_cons_cons, List.foldl_cons]
    exact fold_put_ok hs (hf.put (some p) h)

/-- A ROUND. -/
theorem roundF_ok {exec : Ctx → Code → Fr → St → Out} (hexec : ∀ ctx c fr s r, exec ctx c fr s = some r → From P E ctx [.code c] fr s r) {l : Nat} {args : List Value} {r : AEnd × St}
    (hr : roundF exec l args s = some r) : CallOk P E (.round l args) s r := by
  intro ρ w L args' c cs h hρ ha
  unfold roundF at hr
  split at hr
  case h_2 => cases hr
  rename_i pe0 fn t n params assign body de hb
  split at hr
  case isFalse => cases hr
  rename_i hlen
  obtain ⟨rl, g1, g2, g3, g4, g5, g6, g7, g8, Ld, g9, g10⟩ := h.loopObj hρ hb
  have hsize : args'.toArray.size = rl.params.size := by
    have e1 := ha.length_eq
    have e2 : rl.params.size = params.length := by rw [← g6]; simp
    simp only [List.size_toArray]
    omega
  have hyield : (Instr.yield L.c args'.toArray).run P w = .ok (.round L.c fn ((rl.params.zip args'.toArray).foldl (fun tmps (t, a) => tmps.setIfInBounds t a) rl.tmps) assign body) w := by
    simp only [Instr.yield, Sem.run_bind, run_getLoop' g1, Result.andThen_ok, hsize, ne_eq, not_true_eq_false, if_false, Sem.run_pure, g4, g7, g8]
  have hfr : FRel ρ ((params.zip args).foldl (fun fr x => fr.put (some x.1) x.2) ⟨t, n, []⟩) ((rl.params.zip args'.toArray).foldl (fun tmps (t, a) => tmps.setIfInBounds t a) rl.tmps) [] := by
    have := fold_put_ok (ps := params) ha (fr := ⟨t, n, []⟩) (tmps := rl.tmps) (defers := []) ⟨g5, .nil⟩
    have e : (rl.params.zip args'.toArray).foldl (fun tmps (t, a) => tmps.setIfInBounds t a) rl.tmps = (params.zip args').foldl (fun tmps x => tmps.setIfInBounds x.1 x.2) rl.tmps := by
      rw [← Array.foldl_toList, Array.toList_zip, g6]
    rw [e]; exact this
  have hctx : CtxOk ρ ⟨fn, some l⟩ fn .normal (some L.c) (c :: cs) := ⟨rfl, .inr ⟨l, L, rfl, rfl, hρ⟩, .inl rfl⟩
  split at hr
  case h_2 => cases hr
  rename_i fr1 s1 hx
  obtain ⟨ρ1, w1, tmps1, defers1, q1, q2, q3, q4⟩ := hexec _ _ _ _ _ hx ρ w _ [] fn .normal (some L.c) [.beginRound, .code body] (c :: cs) h hfr hctx
  split at hr
  case h_2 => cases hr
  rename_i p1 fn1 t1 n1 params1 assign1 body1 de1 hb1
  have hρ1 := q2.le _ _ _ hρ
  obtain ⟨r1, k1, k2, k3, k4⟩ := q1.loopObj hρ1 hb1
  obtain ⟨m1, m2⟩ := q1.setLoop hρ1 hb1 k1 .busy p1
  have hbegin : (Instr.beginRound L.c).run P w1 = .ok () { w1 with heap := w1.heap.setIfInBounds L.c (.loop { r1 with state := .busy, pending := p1 }) } := by
    have e : ({ r1 with state := .busy } : Loop) = { r1 with state := .busy, pending := p1 } := by rw [← k3]
    simp only [Instr.beginRound, Sem.run_bind, run_getLoop' k1, Result.andThen_ok, run_setObj_of (P := P) k1 (by intro a b d hh; cases hh), e, k2]; rfl
  split at hr
  · cases hr
  rename_i e2 fr2 s2 hnp hx2
  · obtain ⟨ρ2, w2, tmps2, defers2, u1, u2, u3, u4⟩ := hexec _ _ _ _ _ hx2 ρ1 _ tmps1 defers1 fn .normal (some L.c) [] (c :: cs) m1 q3 (hctx.mono q2.le)
    split at hr
    case h_2 => cases hr
    rename_i st3 pe3 fn3 t3 n3 params3 assign3 body3 de3 hb3
    cases hr
    have hρ2 := u2.le _ _ _ hρ1
    obtain ⟨r3, v1, v2, v3, v4⟩ := u1.loopObj hρ2 hb3
    obtain ⟨o1, o2⟩ := u1.setLoop hρ2 hb3 v1 (if (jumpOf e2).isNone then .ready else .done) (jumpOf e2)
    have hend : (Instr.endRound L.c (jumpOf e2)).run P w2 = .ok (.bool (jumpOf e2).isNone) { w2 with heap := w2.heap.setIfInBounds L.c (.loop { r3 with state := if (jumpOf e2).isNone then .ready else .done, pending := jumpOf e2 }) } := by
      simp only [Instr.endRound, Sem.run_bind, run_getLoop' v1, Result.andThen_ok, run_setObj_of (P := P) v1 (by intro a b d hh; cases hh), Sem.run_pure]
    refine ⟨fn, _, assign, body, ρ2, _, hyield, o1, ((q2.trans m2).trans u2).trans o2, _, .bool _, ?_⟩
    have s1' : Steps P (lone (Frame.round L.c fn ((rl.params.zip args'.toArray).foldl (fun tmps (t, a) => tmps.setIfInBounds t a) rl.tmps) assign body .normal) (c :: cs) w) (lone (cfr fn .normal (some L.c) tmps1 defers1 [.beginRound, .code body]) (c :: cs) w1) := q4
    refine s1'.trans (.head (st_begin hbegin) ?_)
    cases e2 with
    | normal => exact Steps.trans u4 (.one (st_round_end hend))
    | jump j => obtain ⟨pre, y1, y2⟩ := u4; exact y2.trans (.one (st_round_jump y1 hend))
    | panic ch => exact (hnp _ rfl).elim
  · cases hr

/-- RANGING OVER A FUNCTION. -/
theorem rangeFuncF_ok (ok : E.Ok P) {exec : Ctx → Code → Fr → St → Out} {call : ANext → St → Option (AEnd × St)}
    (hexec : ∀ ctx c fr s r, exec ctx c fr s = some r → From P E ctx [.code c] fr s r) (hcall : ∀ a s r, call a s = some r → CallOk P E a s r) {ctx : Ctx} {f : Operand} {ps : Array Tmp} {as bo : Code} {fr : Fr} {s : St} {r : AExit × Fr × St}
    (hr : rangeFuncF E exec call ctx f ps as bo fr s = some r) : From P E ctx [.code (.rangeFunc f ps as bo)] fr s r := by
  intro ρ w tmps defers fn kind round k cs h hf hc
  unfold rangeFuncF at hr
  simp only at hr
  split at hr
  · cases hr
  rename_i d mark s1 hstart
  -- the loop is entered
  have hin : ∃ ρ1 w1 Ld mark', Rel E ρ1 s1 w1 ∧ Ev ρ s w ρ1 s1 w1 ∧ ρ1 d 0 = some Ld ∧ DRels ρ1 mark mark' ∧
      (Instr.enterLoop fn tmps ps as bo round).run P w = .ok (w1.heap.size, mark') (w1.alloc (.loop { state := .ready, pending := none, fn, tmps, params := ps, assign := as, body := bo, defers := Ld.c })) := by
    split at hstart
    · rename_i l hl
      split at hstart
      · rename_i a1 a2 a3 a4 a5 a6 a7 a8 d' hb
        cases hstart
        rcases hc.round with ⟨h1, -⟩ | ⟨l', L, h1, h2, h3⟩
        · rw [hl] at h1; cases h1
        · rw [hl] at h1; cases h1
          obtain ⟨rl, g1, g2, g3, g4, g5, g6, g7, g8, Ld, g9, g10⟩ := h.loopObj h3 hb
          refine ⟨ρ, w, Ld, [], h, Ev.refl _ _ _, g9, .nil, ?_⟩
          rw [h2]
          simp only [Instr.enterLoop, Sem.run_bind, run_getLoop' g1, Result.andThen_ok, Sem.run_pure, run_newObj, World.alloc_eq, g10]
      · cases hstart
    · rename_i hl
      cases hstart
      have hround : round = none := by
        rcases hc.round with ⟨-, h2⟩ | ⟨l', L, h1, -⟩
        · exact h2
        · rw [hl] at h1; cases h1
      obtain ⟨ρ1, q1, q2, L, q3, q4⟩ := it_alloc h (.deferred (some [])) (.deferred (some [])) (fun ρ' _ => ⟨rfl, .nil⟩)
      refine ⟨ρ1, _, L, [{ target := .collected L.c, args := #[] }], q1, q2, q3, .cons (.collected q3) .nil, ?_⟩
      rw [hround, q4]
      simp only [Instr.enterLoop, Sem.run_bind, run_newObj, World.alloc_eq, Result.andThen_ok, Sem.run_pure]
  obtain ⟨ρ1, w1, Ld, mark', q1, q2, q3, q4, henter⟩ := hin
  have hft := hf.t
  obtain ⟨ρ2, u1, u2, L, u3, u4⟩ := it_alloc q1 (.loop .ready none ctx.fn fr.t fr.n ps.toList as bo d) (.loop { state := .ready, pending := none, fn, tmps, params := ps, assign := as, body := bo, defers := Ld.c })
    (fun ρ' le => ⟨rfl, rfl, rfl, hc.fn, hft.mono (fun b hi L e => le _ _ _ (q2.le _ _ _ e)), rfl, rfl, rfl, Ld, le _ _ _ q3, rfl⟩)
  have hfr2 : FRel ρ2 { fr with d := mark ++ fr.d } tmps (mark' ++ defers) := ⟨(hf.mono q2.le).t.mono u2.le, (q4.append (hf.mono q2.le).d).mono u2.le⟩
  split at hr
  · cases hr
  rename_i g hg
  have hgv := eval_ok u1 hfr2.t hg
  split at hr
  case h_2 => cases hr
  rename_i gf args hcv
  have hyv : VRels ρ2 [.func (.yield s1.nx) #[] #[]] [.func (.yield L.c) #[] #[]] := .cons (.yield u3 .nil .nil) .nil
  obtain ⟨args', fn', t1, t2, -⟩ := callV_ok (P := P) ok u1 hgv hyv hcv
  have hstep := st_rangeFunc (P := P) (fn := fn) (kind := kind) (round := round) (tmps := tmps) (defers := defers) (k := k) (cs := cs) (f := f) henter (by rw [← u4]; exact t1)
  have hkind : kindOk .normal (cfr fn kind round tmps (mark' ++ defers) (.inRangeFunc w1.heap.size :: k)) := .inl rfl
  split at hr
  · rename_i v s2 hcl
    obtain ⟨ρ3, w3, x1, x2, v', x3, x4⟩ := hcall _ _ _ hcl ρ2 _ args' .normal (cfr fn kind round tmps (mark' ++ defers) (.inRangeFunc w1.heap.size :: k)) cs u1 t2 hkind (.inl rfl)
    have hfin : (handed .normal (cfr fn kind round tmps (mark' ++ defers) (.inRangeFunc w1.heap.size :: k)) v') = cfr fn kind round tmps (mark' ++ defers) (.endRangeFunc w1.heap.size :: k) := rfl
    rw [hfin] at x4
    split at hr
    case h_2 => cases hr
    rename_i st pending fn4 t4 n4 ps4 as4 bo4 de4 hb4
    split at hr
    · cases hr
    rename_i hbusy
    have hρ3 := x2.le _ _ _ u3
    obtain ⟨r4, y1, y2, y3, y4⟩ := x1.loopObj hρ3 hb4
    obtain ⟨z1, z2⟩ := x1.setLoop hρ3 hb4 y1 .exhausted pending
    have hend : (Instr.endLoop L.c).run P w3 = .ok pending { w3 with heap := w3.heap.setIfInBounds L.c (.loop { r4 with state := .exhausted, pending := pending }) } := by
      have e : ({ r4 with state := .exhausted } : Loop) = { r4 with state := .exhausted, pending := pending } := by rw [← y3]
      have hnb : (r4.state == .busy) = false := by
        rw [y2]
        simpa using hbusy
      simp only [Instr.endLoop, Sem.run_bind, run_getLoop' y1, Result.andThen_ok, hnb, Bool.false_eq_true, if_false, run_setObj_of (P := P) y1 (by intro a b d hh; cases hh), e, Sem.run_pure, y3]
    have hall : Ev ρ s w ρ3 _ _ := ((q2.trans u2).trans x2).trans z2
    have hst : Steps P (lone (cfr fn kind round tmps defers (.code (.rangeFunc f ps as bo) :: k)) cs w) (lone (cfr fn kind round tmps (mark' ++ defers) ((pending.map Item.code).toList ++ k)) cs { w3 with heap := w3.heap.setIfInBounds L.c (.loop { r4 with state := .exhausted, pending := pending }) }) :=
      (Steps.head hstep (by rw [u4] at *; exact x4)).trans (.one (by rw [← u4]; exact st_endRange hend))
    have hfr3 := hfr2.mono x2.le
    split at hr
    · cases hr
      exact ⟨ρ3, _, tmps, mark' ++ defers, z1, hall, hfr3, hst⟩
    · rename_i c
      obtain ⟨ρ5, w5, tmps5, defers5, p1, p2, p3, p4⟩ := hexec _ _ _ _ _ hr ρ3 _ tmps (mark' ++ defers) fn kind round k cs z1 hfr3 (hc.mono hall.le)
      exact ⟨ρ5, w5, tmps5, defers5, p1, hall.trans p2, p3, p4.of_steps hst⟩
  · rename_i chain s2 hcl
    cases hr
    obtain ⟨ρ3, w3, x1, x2, chain', x3, x4⟩ := hcall _ _ _ hcl ρ2 _ args' .normal (cfr fn kind round tmps (mark' ++ defers) (.inRangeFunc w1.heap.size :: k)) cs u1 t2 hkind (.inl rfl)
    exact ⟨ρ3, w3, tmps, mark' ++ defers, x1, (q2.trans u2).trans x2, hfr2.mono x2.le, _, chain', x3, .head hstep x4⟩
  · cases hr
end
end
end Go.Eng
