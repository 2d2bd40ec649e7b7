/- crc.takes, as an oracle of the evaluator. -/
import Derived.Test.YtkgapncajjafoaaGreatDoorEnv
import Derived.Test.YtkgapncajjafoaaGreatDoorTakes
set_option linter.all false
set_option maxRecDepth 100000
namespace Go.Proofs.YtkgapncajjafoaaGreatDoor
open Go Go.Eng
def crc8 (v c : Nat) : Nat := stepN (stepN (stepN (stepN (stepN (stepN (stepN (stepN (Nat.xor v c))))))))
theorem crc8_eq (v c : Nat) : crc8 v c = itN 8 (v ^^^ c) := rfl
noncomputable def orcTakes (p c : Value) (s : St) : Option (Value × St) :=
  pointerK p fun a => someK a fun a => addrK a fun b o sp => someK sp fun hi => intK c fun j c => kindK .u8 j (natK c fun c => ifK (Nat.ble c 255) (getK b s fun obj => cellsK obj fun cs e w z x =>
    @Bool.rec (fun _ => Option (Value × St)) (ifK (Nat.ble w hi) (ifK (lenB cs hi) (nthK cs o fun v => intK v fun j n => kindK .u32 j (natK n fun n => ifK (Nat.ble n 4294967295) (setK cs o (.int .u32 (.ofNat (crc8 n c))) fun cs => putK b (.cells cs e hi false x) s fun s => some (.tuple #[], s)))))) none z))
noncomputable def orcT (args : List Value) (s : St) : Option (Value × St) := ifK (lenB args 2) (orcTakes (nthD args 0) (nthD args 1) s)
theorem orcTakes_some {p c : Value} {s s' : St} {v : Value} (h0 : orcTakes p c s = some (v, s')) : ∃ b o hi cn n cs e wz x, p = .pointer (some ⟨b, o, some hi⟩) ∧ c = .int .u8 (.ofNat cn) ∧ cn ≤ 255 ∧ n ≤ 4294967295 ∧
    s.h.get b = some (.cells cs e wz false x) ∧ wz ≤ hi ∧ cs.length = hi ∧ cs[o]? = some (.int .u32 (.ofNat n)) ∧ o < cs.length ∧ v = .tuple #[] ∧ s' = s.put b (.cells (cs.take o ++ [.int .u32 (.ofNat (crc8 n cn))] ++ cs.drop (o + 1)) e hi false x) := by
  unfold orcTakes at h0
  obtain ⟨a, e1, h1⟩ := pointerK_some h0; clear h0
  obtain ⟨a', e2, h2⟩ := someK_some h1; clear h1
  rw [addrK_eq] at h2
  obtain ⟨hi, e3, h3⟩ := someK_some h2; clear h2
  obtain ⟨j, ci, e4, h4⟩ := intK_some h3; clear h3
  obtain ⟨e5, h5⟩ := kindK_some h4; clear h4
  obtain ⟨cn, e6, h6⟩ := natK_some h5; clear h5
  obtain ⟨e7, h7⟩ := ifK_some h6; clear h6
  obtain ⟨obj, e8, h8⟩ := getK_some h7; clear h7
  obtain ⟨cs, e, wz, z, x, e9, h9⟩ := cellsK_some h8; clear h8
  cases z with
  | true => cases h9
  | false =>
  obtain ⟨e10, h10⟩ := ifK_some h9; clear h9
  obtain ⟨e11, h11⟩ := ifK_some h10; clear h10
  obtain ⟨u, e12, h12⟩ := nthK_some h11; clear h11
  obtain ⟨j2, ni, e13, h13⟩ := intK_some h12; clear h12
  obtain ⟨e14, h14⟩ := kindK_some h13; clear h13
  obtain ⟨n, e15, h15⟩ := natK_some h14; clear h14
  obtain ⟨e16, h16⟩ := ifK_some h15; clear h15
  obtain ⟨e17, h17⟩ := setK_some h16; clear h16
  rw [putK_eq] at h17
  simp only [Option.some.injEq, Prod.mk.injEq] at h17
  obtain ⟨b, o, sp⟩ := a'
  simp only at e3 e8 e12 e17 h17
  subst e3 e2 e5 e6 e9 e14 e15
  rw [e13] at e12
  exact ⟨b, o, hi, cn, n, cs, e, wz, x, e1, e4, Nat.le_of_ble_eq_true e7, Nat.le_of_ble_eq_true e16, e8, Nat.le_of_ble_eq_true e10, lenB_eq e11, e12, e17, h17.1.symm, h17.2.symm⟩
theorem takes_tells {args : List Value} {s s' : St} {v : Value} (h : orcT args s = some (v, s')) : Tells Tryz.prog EB 49 args s v s' := by
  unfold orcT at h
  obtain ⟨hl, h⟩ := ifK_some h
  have hl := lenB_eq hl
  match args, hl, h with
  | [p, cv], _, h =>
    obtain ⟨b, o, hi, c, n, cs, e, wz, x, rfl, rfl, hc, hn, hobj, h1, h2, hu, hlt, rfl, rfl⟩ := orcTakes_some (show orcTakes p cv s = some (v, s') from h)
    refine Tells.of_calls fun ρ w args' hr ha => ?_
    cases ha with
    | cons hp hs =>
    cases hs with
    | cons hcv hs =>
    cases hs
    cases hp
    rename_i L hρ
    cases hcv
    have hw : writeN s ⟨b, o, some hi⟩ [.int .u32 (.ofNat (crc8 n c))] = some (s.put b (.cells (cs.take o ++ [.int .u32 (.ofNat (crc8 n c))] ++ cs.drop (o + 1)) e hi false x)) := by
      simp only [writeN, hobj]
      rw [if_pos ⟨h2.symm, by simp only [List.length_singleton]; omega, by simp [oneCell]⟩]
      rfl
    obtain ⟨w', q1, q2, q3⟩ := writeN_rel (P := Tryz.prog) hr hρ (VRels.cons (VRel.int .u32 (.ofNat (crc8 n c))) .nil) hw
    have hread : readN s ⟨b, o, some hi⟩ 1 = some [.int .u32 (.ofNat n)] := by
      simp only [readN, hobj]
      rw [if_pos ⟨h1, by omega⟩, List.take_one, List.head?_drop, hu]; rfl
    obtain ⟨ca, el, fz, p1, p2, p3, p4⟩ := readN_rel hr hρ hread
    have hcell : w.cell? ⟨L.c, o, none⟩ = some (.int .u32 (n : Int)) := by
      have hlt2 : o < ca.size := by omega
      have : (ca.toList.drop o).take 1 = [ca[o]] := by
        rw [List.take_one, List.head?_drop, Array.getElem?_toList, Array.getElem?_eq_getElem hlt2]; rfl
      rw [this] at p4
      cases p4 with
      | cons hv _ =>
        generalize hq : ca[o] = q at hv
        cases hv
        simp only [World.cell?, p1, Option.isSome_none, Bool.false_eq_true, if_false, Array.getElem?_eq_getElem hlt2, hq]
        rfl
    have hfz : w.frozen? ⟨L.c, o, none⟩ = false := by
      obtain ⟨ca2, fz2, k1, k2⟩ := hr.cells hρ hobj
      obtain ⟨-, -, k4, k5, -, -, -, k9, -⟩ := k2
      rw [p1] at k1
      simp only [Option.some.injEq, Obj.cells.injEq] at k1
      obtain ⟨rfl, rfl, rfl⟩ := k1
      have := k9 rfl o (by omega)
      simp only [World.frozen?, p1]
      obtain ⟨lo, hi2⟩ := fz
      simp only at this ⊢
      simp only [Bool.and_eq_false_iff, decide_eq_false_iff_not]
      omega
    have hcall := takes_any L.c o n c w hcell hfz (by omega) (by omega)
    refine hcall.mono fun e2 w2 hh => ?_
    obtain ⟨rfl, rfl⟩ := hh
    have hst : (storeCells ⟨L.c, o, none⟩ [.int .u32 (.ofNat (crc8 n c))]).run Tryz.prog w = .ok () (w.setCell ⟨L.c, o, none⟩ (.int .u32 ((itN 8 (n ^^^ c) : Nat) : Int))) := by
      simp only [storeCells, Sem.run_bind, Addr.add_zero']
      rw [run_store _ _ _ _ _ rfl]
      simp [hcell, hfz, crc8_eq]
    rw [hst] at q1
    cases q1
    exact ⟨ρ, .tuple #[], rfl, q2, q3, .tuple .nil⟩
/-- The evaluator's tables, crc.takes by its oracle. -/
noncomputable def orc0 (f : FuncId) (args : List Value) (s : St) : Option (Value × St) := @Bool.rec (fun _ => Option (Value × St)) none (orcT args s) (Nat.beq f 49)
noncomputable def E0 : Env := { EB with orc := orc0 }
theorem E0_ok : E0.Ok Tryz.prog := Env.Ok.orc (E := EB) (o := EB.orc) EB_ok
theorem E0_true : E0.True Tryz.prog := by
  intro f args s v s' h
  have h : @Bool.rec (fun _ => Option (Value × St)) none (orcT args s) (Nat.beq f 49) = some (v, s') := h
  cases hb : Nat.beq f 49 with
  | false => rw [hb] at h; cases h
  | true =>
    rw [hb] at h
    obtain rfl := Nat.eq_of_beq_eq_true hb
    exact (takes_tells h).orc (E := EB) (o := EB.orc) (o' := orc0)
theorem mixed : Tryz.prog.follows .mixedOrders = true := by kernel_rfl
theorem glob_in : ∀ g v, EB.glob g = some v → ∀ k : Nat → Bool, k 0 = true → vin k v = true := by
  intro g v h k hk
  have h : globS g = some v := h
  unfold globS at h
  cases hb : Nat.beq g 1 with
  | false => rw [hb] at h; cases h
  | true => rw [hb] at h; cases h; exact hk
end Go.Proofs.YtkgapncajjafoaaGreatDoor
