/- From a walk to a law's row: what all laws of this seat share. -/
import Derived.Test.YtkgapncajjafoaaGreatDoorCards
import Derived.Test.YtkgapncajjafoaaGreatDoorTie
import Derived.Test.YtkgapncajjafoaaGreatDoorLay
import Derived.WalkKit
import Derived.ProofKit
import Derived.OpenShut
import Derived.Deep.DeepHandedRow
import Derived.Lib.LaidTab
set_option maxRecDepth 100000
namespace Go.Proofs.YtkgapncajjafoaaGreatDoor
open Go.ChangeShapes Go.WideShapes Go.ChangeAt Go.RowKit
theorem own : ownKnob Tryz.prog.godebug = none := by kernel_rfl
theorem gNone : Tryz.prog.globalNamed "davenport/utf.none" = some 1 := by kernel_rfl
theorem gNoneType : (Tryz.prog.globals[1]?).map (·.type) = some 380 := by kernel_rfl
theorem gSize : 1 < Tryz.prog.globals.size := by decide +kernel
theorem cells3 : Tryz.prog.cellsOf 3 = 1 := by kernel_rfl
theorem cells380 : Tryz.prog.cellsOf 380 = 2 := by kernel_rfl
theorem start1 : ((begin Tryz.prog (fun _ _ => 0) default).world.heap[1]?).bind Obj.row? = some (#[.int .i64 0, .int .i64 0], 380) := by kernel_rfl
/-- WHAT THE ROW's LIST GIVES: the variable holds what the program lays there. -/
theorem laid_of {W : World} (h : laidMet Tryz.prog [("davenport/utf.none", Rows.laid_davenport_utf_none)] W) (hs : W.ShapedOpen Tryz.prog) : Laid W := by
  obtain ⟨ps, ⟨g', t', cs, fuel, p, q, hg', ht', hvar, hd, _, _⟩, _⟩ := h
  obtain rfl := Option.some.inj (gNone.symm.trans hg')
  obtain rfl := Option.some.inj (gNoneType.symm.trans ht')
  obtain ⟨ca, hca, -, -⟩ := hs.1 1 _ 380 gSize start1
  have hcs : cs = ca := by
    simp only [World.var?, gNone, Option.bind_some, hca, Option.some.injEq] at hvar
    exact hvar.symm
  subst hcs
  obtain ⟨y0, y1, n, hx, hl, h0, h1⟩ := trod_struct2 Tryz.underlying380 hd
  obtain ⟨a, ha, hxa, _⟩ := DataW.trod_int Tryz.underlying3 h0
  obtain ⟨b, hb, hxb, _⟩ := DataW.trod_int Tryz.underlying3 h1
  subst hxa hxb
  rw [cells380] at hl
  simp only [Rows.laid_davenport_utf_none, Prod.mk.injEq, DataW.agg.injEq, List.cons.injEq, DataW.lit.injEq, Lit.int.injEq, true_and, and_true] at hx
  obtain ⟨⟨rfl, rfl⟩, -⟩ := hx
  refine ⟨(0, 0), ?_⟩
  obtain ⟨l⟩ := cs
  match l, hl with
  | [x, y], _ =>
    simp only [cells3, List.drop_zero, List.drop_succ_cons, List.take_succ_cons, List.take_zero, List.cons.injEq, and_true] at ha hb
    rw [ha, hb] at hca
    exact hca
/-- A call that leaves new blocks and nothing else. -/
theorem kept_of {W W' : World} (h : Below W.heap.size W W') (may : MemPlace → Prop) : W.keptBut W' may := by
  refine ⟨h.os, h.output, fun i hi => ?_⟩
  have := (World.keptBut_refl W may).2.2 i hi
  rw [h.block i hi]
  exact this
variable {H : Type} {enc : TypeId × Value → H}
theorem post_below {P : Program} {f : Func} {s : ChangeSpec} {fresh handsOn again : Bool} {W W' : World} {args : Array Value} {v : Value} {ds gs : List (DataW H)}
    (hW : DataW.Whole enc P f.params.toList s.vars false W args.toList ds gs [])
    (hres : ∀ (b : Nat) (sp : Nat → Bool) (hd : Bool), DataW.TrodAll enc P W' b sp hd f.resultTypes.toList (v.resultList f.resultTypes.size) (s.fn H (ds ++ gs)).results [])
    (hargs : ∀ sp : Nat → Bool, DataW.TrodAll enc P W' 0 sp true f.params.toList args.toList (s.fn H (ds ++ gs)).args [])
    (hvars : ∀ sp : Nat → Bool, DataW.TrodVars enc P W' sp s.vars (s.fn H (ds ++ gs)).vars [])
    (hk : Below W.heap.size W W')
    (hok : ∀ (j : Nat) (t : TypeId) (r : Value), f.resultTypes[j]? = some t → (v.resultList f.resultTypes.size)[j]? = some r → Value.okWide P W' .any 0 t r) :
    s.post enc P f false fresh handsOn again W args v W' := by
  refine ⟨ds, gs, [], [], [], [], hW, hres _ _ _, hargs _, hvars _, kept_of hk _, fun _ => ?_⟩
  refine ⟨hok, _, _, ([] ++ []) ++ [], ⟨[] ++ [], [], ChangeShapes.trodAll_append (hargs _) (hres _ _ _), hvars _, rfl, ?_, ?_⟩, ?_⟩
  · intro b off hp
    simp at hp
  · intro ha; cases ha
  · intro p hp _
    simp at hp
/-- A WORLD FOR THE WITNESS: the settled one, the variable holding what its initialiser lays. -/
noncomputable def laidWorld (os : Os) : World :=
  { World.holding Tryz.prog os ⟨#[], #[], []⟩ with heap := (World.holding Tryz.prog os ⟨#[], #[], []⟩).heap.modify 1 fun
      | .cells _ t frozen => .cells #[.int .i64 0, .int .i64 0] t frozen
      | o => o }
end Go.Proofs.YtkgapncajjafoaaGreatDoor
