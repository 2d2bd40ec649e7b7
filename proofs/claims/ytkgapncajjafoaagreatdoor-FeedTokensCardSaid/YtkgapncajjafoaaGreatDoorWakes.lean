/- The law's 'wakes' returns true: out of calls evaluated apart. -/
import Derived.Test.YtkgapncajjafoaaGreatDoorLay
import Derived.Test.YtkgapncajjafoaaGreatDoorOv18x6
import Derived.Test.YtkgapncajjafoaaGreatDoorOv28x2942
import Derived.Test.YtkgapncajjafoaaGreatDoorOv28x6047
import Derived.Test.YtkgapncajjafoaaGreatDoorOv28x7795
import Derived.Test.YtkgapncajjafoaaGreatDoorOv28x9565
import Derived.Test.YtkgapncajjafoaaGreatDoorOv44x668
import Derived.Test.YtkgapncajjafoaaGreatDoorOv46x1709
import Derived.Test.YtkgapncajjafoaaGreatDoorOv46x4573
import Derived.Test.YtkgapncajjafoaaGreatDoorOv58x4190
set_option linter.all false
set_option maxRecDepth 100000
namespace Go.Proofs.YtkgapncajjafoaaGreatDoor
open Go Go.Eng
noncomputable def ovs : List Ov := [ov18_6, ov44_668, ov46_1709, ov28_2942, ov58_4190, ov46_4573, ov28_6047, ov28_7795, ov28_9565]
noncomputable def orc1 (f : FuncId) (args : List Value) (s : St) : Option (Value × St) := @Bool.rec (fun _ => Option (Value × St)) (orcL ovs f args s) (orcT args s) (Nat.beq f 49)
noncomputable def E1 : Env := { EB with orc := orc1 }
theorem E1_ok : E1.Ok Tryz.prog := Env.Ok.orc (E := EB) (o := EB.orc) EB_ok
theorem ovs_ok : ∀ d ∈ ovs, d.run (callC E0 60 200) = some () ∧ d.closed = true := by
  intro d hd
  simp only [ovs, List.mem_cons, List.not_mem_nil, or_false] at hd
  rcases hd with rfl | rfl | rfl | rfl | rfl | rfl | rfl | rfl | rfl
  · exact ⟨ov18_6_run, ov18_6_closed⟩
  · exact ⟨ov44_668_run, ov44_668_closed⟩
  · exact ⟨ov46_1709_run, ov46_1709_closed⟩
  · exact ⟨ov28_2942_run, ov28_2942_closed⟩
  · exact ⟨ov58_4190_run, ov58_4190_closed⟩
  · exact ⟨ov46_4573_run, ov46_4573_closed⟩
  · exact ⟨ov28_6047_run, ov28_6047_closed⟩
  · exact ⟨ov28_7795_run, ov28_7795_closed⟩
  · exact ⟨ov28_9565_run, ov28_9565_closed⟩
theorem E1_true : E1.True Tryz.prog := by
  intro f args s v s' h
  have h : @Bool.rec (fun _ => Option (Value × St)) (orcL ovs f args s) (orcT args s) (Nat.beq f 49) = some (v, s') := h
  cases hb : Nat.beq f 49 with
  | false =>
    rw [hb] at h
    obtain ⟨d, hd, rfl, ho⟩ := orcL_some h
    obtain ⟨h1, h2⟩ := ovs_ok d hd
    exact (Ov.tells E0_ok mixed E0_true h1 h2 glob_in ho).orc (E := EB) (o := orc0) (o' := orc1)
  | true =>
    rw [hb] at h
    obtain rfl := Nat.eq_of_beq_eq_true hb
    exact (takes_tells h).orc (E := EB) (o := EB.orc) (o' := orc1)
def ov9 : Ov := ⟨9, 1, [], [(0, .obj utfNone)], .bool true, [(0, .obj utfNone)], 10753⟩
theorem ov9_run : ov9.run (callC E1 60 200) = some () := by kernel_rfl
/-- 'wakes' returns true, and leaves new blocks, nothing else. -/
theorem wakes_any {w : World} (h : Laid w) : Calls Tryz.prog 9 #[] w fun e w' => e = .returned (.bool true) ∧ RowKit.Below w.heap.size w w' := by
  obtain ⟨q, h⟩ := h
  obtain ⟨sb, h1, h2, h3⟩ := Ov.run_some ov9_run
  have hr : Rel E1 (ren0 q) (layS ov9.keep ⟨HQ.none, 1⟩) w := Rel.orc (E := EB) (o := EB.orc) (rel0 h)
  refine (callC_calls E1_ok mixed E1_true (f := 9) (args := []) (m := 60) (n := 199) rfl h1 hr .nil).mono fun e w' hh => ?_
  obtain ⟨ρ', v', rfl, q1, q2, q3⟩ := hh
  have q3 : VRel ρ' (.bool true) v' := q3
  cases q3
  exact ⟨rfl, below0 h q1 q2 (h3 (0, .obj utfNone) (by simp [ov9]))⟩
end Go.Proofs.YtkgapncajjafoaaGreatDoor
