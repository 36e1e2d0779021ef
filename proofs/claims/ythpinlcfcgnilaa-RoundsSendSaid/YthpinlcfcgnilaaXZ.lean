/- Division by what is not nought. Conditions: none. -/
import Derived.Test.YthpinlcfcgnilaaXY
namespace Go.Proofs.YthpinlcfcgnilaaX
open Go.RowKit
open Go.Proofs.YthpinlcfcgnilaaW.PrintLast Go.Proofs.YthpinlcfcgnilaaW.PrintWords
set_option linter.unusedVariables false
set_option linter.unusedSimpArgs false
theorem rem_run {P : Program} {f : Operand → Value} {o : Oper} {t t' : Nat} {x y : Operand} {kd : IntKind} {a b : Int} (w : World) (hop : o.op = .binOp .rem t x y t') (hx : f x = .int kd a) (hy : f y = .int kd b) (hb : b ≠ 0) : (execOp f o).run P w = .ok (.value (.int kd (Int.tmod a b))) w := by
  simp only [execOp, hop, hx, hy]
  refine run_v ?_
  have h3 : (eqGuard .rem t x y (.int kd a) (.int kd b)).run P w = .ok () w := by simp [eqGuard]
  have h2 : (Op.intDiv .rem kd a b).run P w = .ok (.int kd (Int.tmod a b)) w := by simp only [Op.intDiv, hb, if_false]; rfl
  first
    | (rw [binOp_rem]; exact h2)
    | (rw [run_bind_ok h3, binOp_rem]; exact h2)
theorem quo_run {P : Program} {f : Operand → Value} {o : Oper} {t t' : Nat} {x y : Operand} {kd : IntKind} {a b : Int} (w : World) (hop : o.op = .binOp .quo t x y t') (hx : f x = .int kd a) (hy : f y = .int kd b) (hb : b ≠ 0) : (execOp f o).run P w = .ok (.value (.int kd (kd.wrap (Int.tdiv a b)))) w := by
  simp only [execOp, hop, hx, hy]
  refine run_v ?_
  have h3 : (eqGuard .quo t x y (.int kd a) (.int kd b)).run P w = .ok () w := by simp [eqGuard]
  have h2 : (Op.intDiv .quo kd a b).run P w = .ok (.int kd (kd.wrap (Int.tdiv a b))) w := by simp only [Op.intDiv, hb, if_false]; rfl
  first
    | (rw [binOp_quo]; exact h2)
    | (rw [run_bind_ok h3, binOp_quo]; exact h2)
section
variable {C : Ctx} {k : List CK} {s : S} {R : List (Nat × Row)} {G : Mem} {arr : Array Oper} {o : Oper} {r : List Oper}
theorem X.rem {t t' : Nat} {x y : Operand} {kd : IntKind} {a b : Int} (hop : o.op = .binOp .rem t x y t') (hx : s.ev x = some (.v (.int kd a))) (hy : s.ev y = some (.v (.int kd b))) (hg : (guardOk s arr o && s.can o.dst) = true) (hb : b ≠ 0)
    (H : X C (.ops arr r) k (s.put o.dst (.v (.int kd (Int.tmod a b)))) R G) : X C (.ops arr (o :: r)) k s R G := by
  simp only [Bool.and_eq_true] at hg
  exact X.val _ hg.1 hg.2 (fun ρ a w hs => rem_run w hop (hs.ev hx) (hs.ev hy) hb) H
theorem X.quo {t t' : Nat} {x y : Operand} {kd : IntKind} {a b : Int} (hop : o.op = .binOp .quo t x y t') (hx : s.ev x = some (.v (.int kd a))) (hy : s.ev y = some (.v (.int kd b))) (hg : (guardOk s arr o && s.can o.dst) = true) (hb : b ≠ 0)
    (H : X C (.ops arr r) k (s.put o.dst (.v (.int kd (kd.wrap (Int.tdiv a b))))) R G) : X C (.ops arr (o :: r)) k s R G := by
  simp only [Bool.and_eq_true] at hg
  exact X.val _ hg.1 hg.2 (fun ρ a w hs => quo_run w hop (hs.ev hx) (hs.ev hy) hb) H
end
section
variable {C : Ctx} {arr : Array Oper} {ρ0 : Nat → Nat} {F : List Pin} {RF : List (Nat × Row)} {G0 G : Mem} {ds : List Nat} {n : Nat} {l l' : Array Bool} {k : List CK} {s : S} {R : List (Nat × Row)}
theorem XD.rem {i : Nat} (o : Oper) {t t' : Nat} {x y : Operand} {kd : IntKind} {a b : Int} (hQ : QOk C) (ho : arr[i]? = some o) (hc : takeB .any arr ds l l' i = true) (hop : o.op = .binOp .rem t x y t') (hx : s.ev x = some (.v (.int kd a))) (hy : s.ev y = some (.v (.int kd b))) (hg : (guardOk s arr o && s.can o.dst) = true) (hd : F.all (offPin o.dst) = true) (hb : b ≠ 0)
    (H : XD C arr ρ0 F RF G0 ds n l' k (s.put o.dst (.v (.int kd (Int.tmod a b)))) R G) : XD C arr ρ0 F RF G0 ds (n + 1) l k s R G := by
  refine XD.takeV (.v (.int kd (Int.tmod a b))) hQ ho hc hg (fun ρ ac w hs => ?_) hd H
  have e1 : (s.pinned F).ev x = some (.v (.int kd a)) := by cases x <;> exact hx
  have e2 : (s.pinned F).ev y = some (.v (.int kd b)) := by cases y <;> exact hy
  exact rem_run w hop (hs.ev e1) (hs.ev e2) hb
theorem XD.quo {i : Nat} (o : Oper) {t t' : Nat} {x y : Operand} {kd : IntKind} {a b : Int} (hQ : QOk C) (ho : arr[i]? = some o) (hc : takeB .any arr ds l l' i = true) (hop : o.op = .binOp .quo t x y t') (hx : s.ev x = some (.v (.int kd a))) (hy : s.ev y = some (.v (.int kd b))) (hg : (guardOk s arr o && s.can o.dst) = true) (hd : F.all (offPin o.dst) = true) (hb : b ≠ 0)
    (H : XD C arr ρ0 F RF G0 ds n l' k (s.put o.dst (.v (.int kd (kd.wrap (Int.tdiv a b))))) R G) : XD C arr ρ0 F RF G0 ds (n + 1) l k s R G := by
  refine XD.takeV (.v (.int kd (kd.wrap (Int.tdiv a b)))) hQ ho hc hg (fun ρ ac w hs => ?_) hd H
  have e1 : (s.pinned F).ev x = some (.v (.int kd a)) := by cases x <;> exact hx
  have e2 : (s.pinned F).ev y = some (.v (.int kd b)) := by cases y <;> exact hy
  exact quo_run w hop (hs.ev e1) (hs.ev e2) hb
end
theorem wi_nat {a : Nat} (h : a < 2 ^ 63) : IntKind.i64.wrap (a : Int) = (a : Int) := wi64 (by omega) (by omega)
theorem bxor63 {a b : Nat} (ha : a < 2 ^ 63) (hb : b < 2 ^ 63) : bxor .i64 (a : Int) (b : Int) = ((a ^^^ b : Nat) : Int) := by
  show IntKind.i64.wrap ((((BitVec.ofInt 64 (a : Int)) ^^^ (BitVec.ofInt 64 (b : Int))).toNat : Nat) : Int) = _
  rw [BitVec.toNat_xor, ofInt_nat (by omega), ofInt_nat (by omega)]
  exact wi_nat (Nat.xor_lt_two_pow ha hb)
theorem band63 {a b : Nat} (ha : a < 2 ^ 63) (hb : b < 2 ^ 63) : band .i64 (a : Int) (b : Int) = ((a &&& b : Nat) : Int) := by
  show IntKind.i64.wrap ((((BitVec.ofInt 64 (a : Int)) &&& (BitVec.ofInt 64 (b : Int))).toNat : Nat) : Int) = _
  rw [BitVec.toNat_and, ofInt_nat (by omega), ofInt_nat (by omega)]
  exact wi_nat (Nat.and_lt_two_pow a hb)
theorem sat_test {a b : Int} (ha : 0 ≤ a) (hb : 0 ≤ b) (h : a + b ≤ 4611686018427387904) : ¬ (band .i64 (bxor .i64 a (a + b)) (bxor .i64 b (a + b)) < 0) := by
  obtain ⟨m, rfl⟩ : ∃ m : Nat, a = m := ⟨a.toNat, by omega⟩
  obtain ⟨n, rfl⟩ : ∃ n : Nat, b = n := ⟨b.toNat, by omega⟩
  rw [show ((m : Int) + (n : Int)) = ((m + n : Nat) : Int) by omega, bxor63 (by omega) (by omega), bxor63 (by omega) (by omega), band63 (Nat.xor_lt_two_pow (by omega) (by omega)) (Nat.xor_lt_two_pow (by omega) (by omega))]
  omega
end Go.Proofs.YthpinlcfcgnilaaX
