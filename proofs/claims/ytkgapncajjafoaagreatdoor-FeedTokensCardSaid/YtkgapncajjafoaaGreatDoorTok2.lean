/- feed.Token: what it answers. -/
import Derived.Test.YtkgapncajjafoaaGreatDoorTok
set_option linter.all false
set_option maxRecDepth 100000
namespace Go.Proofs.YtkgapncajjafoaaGreatDoor
open Go Go.Eng
section
variable {P : Program} {E : Env}
/-- Several calls, each told of itself. -/
noncomputable def pointCalls : List (ANext × St × (AEnd × St)) → ANext → St → Option (AEnd × St)
  | [], _, _ => none
  | x :: l, a, s => @ite _ (a = x.1 ∧ s = x.2.1) (Classical.propDecidable _) (some x.2.2) (pointCalls l a s)
theorem pointCalls_ok : ∀ {l : List (ANext × St × (AEnd × St))}, (∀ x ∈ l, CallOk P E x.1 x.2.1 x.2.2) → ∀ a s r, pointCalls l a s = some r → CallOk P E a s r
  | [], _, _, _, _, hr => by cases hr
  | x :: l, h, a, s, r, hr => by
    unfold pointCalls at hr
    split at hr
    · rename_i hh; obtain ⟨rfl, rfl⟩ := hh; cases hr; exact h x (by simp)
    · exact pointCalls_ok (fun y hy => h y (by simp [hy])) a s r hr
theorem pointCalls_here (a : ANext) (s : St) (r : AEnd × St) (l : List (ANext × St × (AEnd × St))) : pointCalls ((a, s, r) :: l) a s = some r := by unfold pointCalls; rw [if_pos ⟨rfl, rfl⟩]
theorem pointCalls_there {f g : FuncId} {x y : List Value} {s s' : St} {r : AEnd × St} {l : List (ANext × St × (AEnd × St))} (h : f ≠ g) : pointCalls ((.enter g y, s', r) :: l) (.enter f x) s = pointCalls l (.enter f x) s := by
  rw [pointCalls, if_neg]; rintro ⟨hh, -⟩; injection hh with hh; exact h hh
theorem Tells.callOk {f : FuncId} {args : List Value} {s s' : St} {v : Value} (h : Tells P E f args s v s') (hn : E.orc f args s ≠ none) : CallOk P E (.enter f args) s (.ret v, s') := by
  intro ρ w args' kind c cs h1 h2 h3 h4
  rcases h4 with rfl | h4
  · exact h ρ w args' c cs h1 h2
  · exact absurd h4 hn
end
def bytes8 (n : Nat) : List Nat := [n / 2 ^ 56 % 256, n / 2 ^ 48 % 256, n / 2 ^ 40 % 256, n / 2 ^ 32 % 256, n / 2 ^ 24 % 256, n / 2 ^ 16 % 256, n / 2 ^ 8 % 256, n / 2 ^ 0 % 256]
theorem rows8_eq (n : Nat) : rows8 n = (bytes8 n).map fun x => .int .u8 (.ofNat x) := rfl
theorem bytes8_lt (n : Nat) : ∀ x ∈ bytes8 n, x < 256 := by
  intro x hx
  simp only [bytes8, List.mem_cons, List.not_mem_nil, or_false] at hx
  rcases hx with rfl | rfl | rfl | rfl | rfl | rfl | rfl | rfl <;> exact Nat.mod_lt _ (by decide)
def crcN (n : Nat) : Nat := not32 (crcF (not32 0) (bytes8 n))
theorem crcN_lt (n : Nat) : crcN n < 4294967296 := not32_lt _ (crcF_lt _ _ (not32_lt _ (by decide)) (bytes8_lt n))
theorem sum_tells {s : St} {b n : Nat} (hr : readN s ⟨b, 0, some 8⟩ 8 = some (rows8 n)) : Tells Tryz.prog EB 20 [.slice (some ⟨b, 0, some 8⟩) 8 9] s (vC (crcN n)) s := by
  refine Tells.of_calls fun ρ w args' h ha => ?_
  cases ha with
  | cons hx hs =>
  cases hs
  cases hx
  rename_i L hρ
  obtain ⟨ca, el, fz, p1, p2, p3, p4⟩ := readN_rel h hρ hr
  have hcells : ∀ (j : Nat) (x : Nat), (bytes8 n)[j]? = some x → w.cell? ⟨L.c, 0 + j, none⟩ = some (.int .u8 (x : Int)) := by
    intro j x hj
    have hj8 : j < 8 := by
      have := (List.getElem?_eq_some_iff.1 hj).1
      exact this
    have h1 : (rows8 n)[j]? = some (.int .u8 (.ofNat x)) := by rw [rows8_eq, List.getElem?_map, hj]; rfl
    obtain ⟨v', h2, h3⟩ := p4.get j _ h1
    cases h3
    rw [List.getElem?_take_of_lt hj8, List.drop_zero, Array.getElem?_toList] at h2
    simp only [World.cell?, p1, Nat.zero_add, Option.isSome_none, Bool.false_eq_true, if_false]
    exact h2
  refine (sum_any (bytes8 n) L.c 0 8 w (bytes8_lt n) (by show 8 < 1000000; decide) hcells).mono fun e w' hh => ?_
  obtain ⟨rfl, hb⟩ := hh
  exact ⟨ρ, _, rfl, Rel.below h hb.size hb.block, Ev.below hb.size hb.block hb.os hb.tape hb.output, .int _ _⟩
theorem E9_ok : E9.Ok Tryz.prog := Env.Ok.orc (E := EB) (o := EB.orc) EB_ok
theorem many8 {c d : Nat} (hc : c < 4294967296) (h : Many c d) (h1 : 1 ≤ d) : d ≤ 8 := by
  rcases Nat.lt_or_ge 8 d with h8 | h8
  · have := h.lo 8 (by decide) h8
    rw [Nat.blt_eq] at this
    have : c / 2 ^ (4 * 8) = 0 := Nat.div_eq_of_lt hc
    omega
  · exact h8
theorem join9 {E : Env} (ok : E.Ok Tryz.prog) {ops : Array Oper} {o2 o3 o4 o5 : Oper} {fr fa : F} {s8 s9 s10 : St} {a2 a3 a5 : List Value} {w2 w3 w4 w5 : Value}
    (k1 : CallOk Tryz.prog E (.enter 21 a2) s8 (.ret w2, s9)) (k2 : CallOk Tryz.prog E (.enter 20 a3) s9 (.ret w3, s9)) (k3 : CallOk Tryz.prog E (.enter 19 a5) s9 (.ret w5, s10))
    (hr : List.range ops.size = [0, 1] ++ [2, 3, 4, 5]) (ha : ∀ call, opsF E call false ops [0, 1] ⟨fr, 39, []⟩ s8 = some (.normal, ⟨fa, 39, []⟩, s8))
    (g2 : ops[2]? = some o2) (i2 : wantedA ops ⟨fa, 39, []⟩ o2 = true) (e2 : evalOp E ⟨fa, 39, []⟩ o2 s8 = some (.enter 21 a2)) (d2 : o2.dst = some 30)
    (g3 : ops[3]? = some o3) (i3 : wantedA ops ⟨fa.set 30 w2, 39, []⟩ o3 = true) (e3 : evalOp E ⟨fa.set 30 w2, 39, []⟩ o3 s9 = some (.enter 20 a3)) (d3 : o3.dst = some 31)
    (g4 : ops[4]? = some o4) (i4 : wantedA ops ⟨(fa.set 30 w2).set 31 w3, 39, []⟩ o4 = true) (e4 : evalOp E ⟨(fa.set 30 w2).set 31 w3, 39, []⟩ o4 s9 = some (.val w4 s9)) (d4 : o4.dst = some 32)
    (g5 : ops[5]? = some o5) (i5 : wantedA ops ⟨((fa.set 30 w2).set 31 w3).set 32 w4, 39, []⟩ o5 = true) (e5 : evalOp E ⟨((fa.set 30 w2).set 31 w3).set 32 w4, 39, []⟩ o5 s9 = some (.enter 19 a5)) (d5 : o5.dst = some 33) :
    From Tryz.prog E cx [.code (.region 9 ops false)] ⟨fr, 39, []⟩ s8 (.normal, ⟨(((fa.set 30 w2).set 31 w3).set 32 w4).set 33 w5, 39, []⟩, s10) := by
  refine From.regionN ok mixed (pointCalls_ok (l := [(.enter 21 a2, s8, .ret w2, s9), (.enter 20 a3, s9, .ret w3, s9), (.enter 19 a5, s9, .ret w5, s10)]) ?_) hr ?_
  · intro x hx
    simp only [List.mem_cons, List.not_mem_nil, or_false] at hx
    rcases hx with rfl | rfl | rfl
    · exact k1
    · exact k2
    · exact k3
  · rw [opsF_app (ha _), opsF_call g2 i2 e2 (pointCalls_here _ _ _ _), d2]
    have p2 : Fr.put ⟨fa, 39, []⟩ (some 30) w2 = ⟨fa.set 30 w2, 39, []⟩ := rfl
    rw [p2, opsF_call g3 i3 e3 ((pointCalls_there (by decide)).trans (pointCalls_here _ _ _ _)), d3]
    have p3 : Fr.put ⟨fa.set 30 w2, 39, []⟩ (some 31) w3 = ⟨(fa.set 30 w2).set 31 w3, 39, []⟩ := rfl
    rw [p3, opsF_val g4 i4 e4, d4]
    have p4 : Fr.put ⟨(fa.set 30 w2).set 31 w3, 39, []⟩ (some 32) w4 = ⟨((fa.set 30 w2).set 31 w3).set 32 w4, 39, []⟩ := rfl
    rw [p4, opsF_call g5 i5 e5 ((pointCalls_there (by decide)).trans ((pointCalls_there (by decide)).trans (pointCalls_here _ _ _ _))), d5]
    rfl
/-- How many digits there are. -/
def hexLen : Nat → Nat → Nat
  | 0, _ => 1
  | f + 1, n => if n < 16 then 1 else hexLen f (n / 16) + 1
theorem hexLen_pos (f n : Nat) : 1 ≤ hexLen f n := by
  cases f with
  | zero => exact Nat.le_refl _
  | succ f => unfold hexLen; split <;> omega
theorem hexLen_le : ∀ (f n : Nat), hexLen f n ≤ f + 1
  | 0, n => Nat.le_refl _
  | f + 1, n => by
    unfold hexLen
    have := hexLen_le f (n / 16)
    split <;> omega
theorem div16 (n j : Nat) : n / 16 / 2 ^ (4 * j) = n / 2 ^ (4 * (j + 1)) := by
  rw [Nat.div_div_eq_div_mul, show 4 * (j + 1) = 4 + 4 * j by omega, Nat.pow_add]
theorem hexLen_many : ∀ (f n : Nat), n < 16 ^ (f + 1) → Many n (hexLen f n)
  | 0, n, h => ⟨fun j h1 h2 => by unfold hexLen at h2; omega, by
      have : n / 2 ^ (4 * 1) = 0 := Nat.div_eq_of_lt h
      show Nat.blt 0 (n / 2 ^ (4 * 1)) = false
      rw [this]; rfl⟩
  | f + 1, n, h => by
    unfold hexLen
    split
    · rename_i hlt
      refine ⟨fun j h1 h2 => by omega, ?_⟩
      have : n / 2 ^ (4 * 1) = 0 := Nat.div_eq_of_lt hlt
      rw [this]; rfl
    · rename_i hge
      have ih := hexLen_many f (n / 16) (by rw [Nat.pow_succ] at h; omega)
      refine ⟨fun j h1 h2 => ?_, ?_⟩
      · cases j with
        | zero => omega
        | succ j =>
          by_cases hj : j = 0
          · subst hj
            rw [Nat.blt_eq]
            show 0 < n / 16
            omega
          · have := ih.lo j (by omega) (by omega)
            rwa [div16] at this
      · have := ih.hi
        rwa [div16] at this
def hexN (n : Nat) : Nat := hexLen 15 n
section
variable {n d : Nat} (hn : n ≤ 1099511627776) (h0 : n ≠ 0) (h1 : 1 ≤ d) (h2 : d ≤ 11) (hm : Many n d)
theorem ex {c : Code} {fr : Fr} {s : St} {r : AExit × Fr × St} {k : Nat} (h : exec EB k cx c fr s = some r) : From Tryz.prog EB cx [.code c] fr s r := (exec_ok EB_ok mixed EB_true k).1 _ _ _ _ _ h
include hn h0 h1 h2 hm
theorem tok7 : From Tryz.prog EB cx [.code (.region 7 o7 false)] ⟨f6 n, 39, []⟩ s5 (.normal, ⟨f7 n, 39, []⟩, s7 n d) := by
  have hd : CallOk Tryz.prog EB (.enter 19 [pR 1, vN n, .int .i64 (.ofNat 1)]) s5 (.ret (.tuple #[]), lays 1 n (max d 1) s5) := digits_ok (r := 1) (n := n) (L := 1) (d := d) (m := 0) (s := s5) (by omega) hm h1 h2 (.inl rfl) inv5 (by decide)
  rw [Nat.max_eq_left h1] at hd
  refine From.regionN EB_ok mixed (pointCall_ok hd) r7 ?_
  rw [opsF_app (e7a _ n), opsF_call q7g (q7w _) (q7e n) (pointCall_at _ _ _), q7d]
  rfl
theorem tok9 : From Tryz.prog EB cx [.code (.region 9 o9 false)] ⟨f8 n d, 39, []⟩ (s8 n d) (.normal, ⟨f9 n d (crcN n), 39, []⟩, s10 n d (crcN n)) := by
  have hc := crcN_lt n
  have hc64 : c64 (crcN n) = crcN n := Nat.mod_eq_of_lt (by omega)
  have hm8 : Many (c64 (crcN n)) (hexLen 7 (crcN n)) := by rw [hc64]; exact hexLen_many 7 _ (by omega)
  have hl8 : hexLen 7 (crcN n) ≤ 8 := hexLen_le 7 _
  have k1 : CallOk Tryz.prog E9 (.enter 21 [vN n]) (s8 n d) (.ret (v9 d), s9 n d) := CallOk.orc (E := EB) (o := EB.orc) rfl ((exec_ok EB_ok mixed EB_true 300).2 _ _ _ (e21 n d h1 h2))
  have k2 : CallOk Tryz.prog E9 (.enter 20 [v9 d]) (s9 n d) (.ret (vC (crcN n)), s9 n d) := Tells.callOk (Tells.orc (E := EB) (o := EB.orc) (sum_tells (g9 n d h1 h2))) (by intro h; cases h)
  have k3 : CallOk Tryz.prog E9 (.enter 19 [pR 1, vN (c64 (crcN n)), .int .i64 (.ofNat 8)]) (s9 n d) (.ret (.tuple #[]), s10 n d (crcN n)) := by
    have hd := digits_ok (r := 1) (n := c64 (crcN n)) (L := 8) (d := hexLen 7 (crcN n)) (m := d + 1) (s := s9 n d) (by rw [hc64]; omega) hm8 (hexLen_pos _ _) (by omega) (.inr rfl) (inv9 h1 h2) (by omega)
    rw [Nat.max_eq_right hl8] at hd
    exact CallOk.orc (E := EB) (o := EB.orc) rfl hd
  refine From.orc (E := EB) (o := E9.orc) (o' := EB.orc) ?_
  exact join9 E9_ok k1 k2 k3 r9 (e9a E9 · n d h1 h2) q9g2 (q9w2 _) (q9e2 n d h1 h2) q9d2 q9g3 (q9w3 _) (q9e3 n d h1 h2) q9d3 q9g4 (q9w4 _) (q9e4 n (crcN n) d h1 h2) q9d4 q9g5 (q9w5 _) (q9e5 n (crcN n) d h1 h2) q9d5
theorem tok_main : From Tryz.prog EB cx [.code cT] ⟨t0 n, 39, []⟩ s0 (.jump .ret, ⟨f10 n d (crcN n), 39, []⟩, s10 n d (crcN n)) := by
  have b6 : Nat.blt 1099511627776 n = false := by
    cases h : Nat.blt 1099511627776 n with
    | false => rfl
    | true => rw [Nat.blt_eq] at h; omega
  have b9 : Nat.beq n 0 = false := by
    cases h : Nat.beq n 0 with
    | false => rfl
    | true => exact absurd (Nat.eq_of_beq_eq_true h) h0
  have c6 : eval EB ⟨fb n, 39, []⟩ (.tmp 6) = some (.bool false) := by show some ((fb n).get 6) = _; rw [eb6, b6]
  have c9 : eval EB ⟨fc n, 39, []⟩ (.tmp 9) = some (.bool false) := by show some ((fc n).get 9) = _; rw [ec9, b9]
  have gB := From.blockN (id := 0) (From.seq (ex (eb n)) (From.cond (a := bA) (b := .seq b3 (.cond (.tmp 9) bZ .skip)) (t := false) c6 (From.seq (ex (ec n)) (From.cond (a := bZ) (b := .skip) (t := false) c9 (From.now fun _ _ _ _ _ _ _ _ => st_skip)))))
  rw [cT_eq]
  exact From.seq (ex (ea n)) (From.seq gB (From.seq (ex (e5 n)) (From.seq (ex (e6 n)) (From.seq (tok7 hn h0 h1 h2 hm) (From.seq (ex (e8 n d h1 h2)) (From.seq (tok9 hn h0 h1 h2 hm) (From.seq (ex (e10 n (crcN n) d h1 h2)) (From.jumps (c := .ret) trivial))))))))
end
theorem tok_over {n : Nat} (h : 1099511627776 < n) : From Tryz.prog EB cx [.code cT] ⟨t0 n, 39, []⟩ s0 (.jump .ret, ⟨fA n, 39, []⟩, s0) := by
  have b6 : Nat.blt 1099511627776 n = true := by rw [Nat.blt_eq]; exact h
  have c6 : eval EB ⟨fb n, 39, []⟩ (.tmp 6) = some (.bool true) := by show some ((fb n).get 6) = _; rw [eb6, b6]
  have gB := From.blockJ (id := 0) (From.seq (ex (eb n)) (From.cond (a := bA) (b := .seq b3 (.cond (.tmp 9) bZ .skip)) (t := true) c6 (ex (eA n))))
  rw [cT_eq]
  exact From.seq (ex (ea n)) (From.seqJ gB)
theorem tok_zero : From Tryz.prog EB cx [.code cT] ⟨t0 0, 39, []⟩ s0 (.jump .ret, ⟨fZ 0, 39, []⟩, s0) := by
  have c6 : eval EB ⟨fb 0, 39, []⟩ (.tmp 6) = some (.bool false) := by show some ((fb 0).get 6) = _; rw [eb6]; rfl
  have c9 : eval EB ⟨fc 0, 39, []⟩ (.tmp 9) = some (.bool true) := by show some ((fc 0).get 9) = _; rw [ec9]; rfl
  have gB := From.blockJ (id := 0) (From.seq (ex (eb 0)) (From.cond (a := bA) (b := .seq b3 (.cond (.tmp 9) bZ .skip)) (t := false) c6 (From.seq (ex (ec 0)) (From.cond (a := bZ) (b := .skip) (t := true) c9 (ex (eZ 0))))))
  rw [cT_eq]
  exact From.seq (ex (ea 0)) (From.seqJ gB)
/-- A number's token. -/
def tokB (n : Nat) : ByteArray := if 1099511627776 < n ∨ n = 0 then ⟨⟨[]⟩⟩ else tokS n (hexN n) (crcN n)
def errN (n : Nat) : Int := if 1099511627776 < n then 2 else 0
theorem f10_ft : EB.ft.get 10 = some Tryz.f10 := by kernel_rfl
theorem f10_body : Tryz.f10.body = some cT := by kernel_rfl
theorem f10_n : max [Value.int .u64 0].length Tryz.f10.ntmps = 39 := by kernel_rfl
theorem tok_calls {n : Nat} {t1 : F} {s1 : St} {b : ByteArray} {x : Int} (hx : From Tryz.prog EB cx [.code cT] ⟨t0 n, 39, []⟩ s0 (.jump .ret, ⟨t1, 39, []⟩, s1)) (hl : leaveF EB noCall Tryz.f10 ⟨t1, 39, []⟩ s1 = some (.ret (.tuple #[.string b, .int .i64 x]), s1)) (hk : s1.h.get 0 = some utfNone)
    {w : World} (h : Laid w) : Calls Tryz.prog 10 #[.int .u64 (n : Int)] w fun e w' => e = .returned (.tuple #[.string b, .int .i64 x]) ∧ RowKit.Below w.heap.size w w' := by
  obtain ⟨q, h⟩ := h
  have hx' : From Tryz.prog EB ⟨10, none⟩ [.code cT] ⟨F.ofList [vN n], max [vN n].length Tryz.f10.ntmps, []⟩ s0 (.jump .ret, ⟨t1, 39, []⟩, s1) := by
    rw [show max [vN n].length Tryz.f10.ntmps = 39 from f10_n]; exact hx
  have := body_calls (P := Tryz.prog) (E := EB) EB_ok noCall_ok (f := 10) f10_ft f10_body (fun _ _ => rfl) (args := [vN n]) (s := s0) (.inr rfl) hx' hl (rel0 h) (args' := [vN n]) (.cons (.int _ _) .nil)
  refine this.mono fun e w' hh => ?_
  obtain ⟨ρ', v', rfl, q1, q2, q3⟩ := hh
  have hb := below0 h q1 q2 hk
  cases q3 with
  | tuple hl =>
    rename_i a'
    obtain ⟨l⟩ := a'
    have hl : VRels ρ' [.string b, .int .i64 x] l := hl
    cases hl with
    | cons h1 hs =>
      cases hs with
      | cons h2 hs => cases hs; cases h1; cases h2; exact ⟨rfl, hb⟩
/-- feed.Token, at any number. -/
theorem token_any {n : Nat} (hn : n < 18446744073709551616) {w : World} (h : Laid w) : Calls Tryz.prog 10 #[.int .u64 (n : Int)] w fun e w' => e = .returned (.tuple #[.string (tokB n), .int .i64 (errN n)]) ∧ RowKit.Below w.heap.size w w' := by
  by_cases h1 : 1099511627776 < n
  · have e1 : tokB n = ⟨⟨[]⟩⟩ := by unfold tokB; rw [if_pos (.inl h1)]
    have e2 : errN n = 2 := by unfold errN; rw [if_pos h1]
    rw [e1, e2]
    exact tok_calls (tok_over h1) (lA n) rfl h
  · have e2 : errN n = 0 := by unfold errN; rw [if_neg h1]
    by_cases h0 : n = 0
    · subst h0
      have e1 : tokB 0 = ⟨⟨[]⟩⟩ := by unfold tokB; rw [if_pos (.inr rfl)]
      rw [e1, e2]
      exact tok_calls tok_zero (lZ 0) rfl h
    · have e1 : tokB n = tokS n (hexN n) (crcN n) := by unfold tokB; rw [if_neg (by omega)]
      have hm : Many n (hexN n) := hexLen_many 15 n (by omega)
      have hp : 1 ≤ hexN n := hexLen_pos _ _
      have hd : hexN n ≤ 11 := by
        rcases Nat.lt_or_ge 11 (hexN n) with h8 | h8
        · have := hm.lo 11 (by decide) h8
          rw [Nat.blt_eq] at this
          have : n / 2 ^ (4 * 11) = 0 := Nat.div_eq_of_lt (by omega)
          omega
        · exact h8
      rw [e1, e2]
      exact tok_calls (tok_main (by omega) h0 hp hd hm) (l10 n (crcN n) _ hp hd) (k10 n (crcN n) _ hp hd) h
end Go.Proofs.YtkgapncajjafoaaGreatDoor
