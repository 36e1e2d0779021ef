/- sat.Add, Sub, fixed.Toward, Part, Halve: walked. Printed by a small program of this session. Conditions: none. -/
import Derived.Test.YthpinlcfcgnilaaProg
import Derived.KernelRfl
import Derived.Test.YthpinlcfcgnilaaXB1
import Derived.Test.YthpinlcfcgnilaaXSG
namespace Go.Proofs.YthpinlcfcgnilaaX
open Go.RowKit
open Go.Proofs.YthpinlcfcgnilaaW.PrintLast Go.Proofs.YthpinlcfcgnilaaW.PrintWords
set_option linter.unusedVariables false
set_option linter.unusedSimpArgs false
set_option maxRecDepth 100000
theorem sub_ok {a b : Int} (ha : -1099511627776 ≤ a ∧ a ≤ 1099511627776) (hb : -1099511627776 ≤ b ∧ b ≤ 1099511627776) : ¬ (band .i64 (bxor .i64 a b) (bxor .i64 a (a - b)) < 0) := by
  have r1 : r64 a := by unfold r64; omega
  have r2 : r64 b := by unfold r64; omega
  have r3 : r64 (a - b) := by unfold r64; omega
  have h1 := bxor_neg r1 r2
  have h2 := bxor_neg r1 r3
  have h3 := band_neg h1.1 h2.1
  rw [h1.2, h2.2] at h3
  intro h
  rw [decide_eq_true h] at h3
  by_cases p : a < 0 <;> by_cases q : b < 0 <;> by_cases r : a - b < 0 <;> simp [p, q, r] at h3 <;> omega
theorem add_ok {a b : Int} (ha : -1099511627776 ≤ a ∧ a ≤ 1099511627776) (hb : -1099511627776 ≤ b ∧ b ≤ 1099511627776) : ¬ (band .i64 (bxor .i64 a (a + b)) (bxor .i64 b (a + b)) < 0) := by
  have r1 : r64 a := by unfold r64; omega
  have r2 : r64 b := by unfold r64; omega
  have r3 : r64 (a + b) := by unfold r64; omega
  have h1 := bxor_neg r1 r3
  have h2 := bxor_neg r2 r3
  have h3 := band_neg h1.1 h2.1
  rw [h1.2, h2.2] at h3
  intro h
  rw [decide_eq_true h] at h3
  by_cases p : a < 0 <;> by_cases q : b < 0 <;> by_cases r : a + b < 0 <;> simp [p, q, r] at h3 <;> omega
def tw (x y : Int) : Int := x + (y - x) / 16
def pt (w f : Int) : Int := w * f / 1048576
theorem pt_eq (w f : Int) : w / 1048576 * f + w % 1048576 * f / 1048576 = pt w f := by
  unfold pt
  have e : w * f = w % 1048576 * f + w / 1048576 * f * 1048576 := by
    have := Int.emod_add_mul_ediv w 1048576
    calc w * f = (w % 1048576 + 1048576 * (w / 1048576)) * f := by rw [this]
      _ = _ := by rw [Int.add_mul, Int.mul_comm 1048576, Int.mul_assoc, Int.mul_assoc, Int.mul_comm 1048576 f]
  rw [e, Int.add_mul_ediv_right _ _ (by decide)]
  omega
theorem pt_bounds {w f : Int} (hw : 0 ≤ w ∧ w ≤ 1073741824) (hf : 0 ≤ f ∧ f ≤ 1048576) : 0 ≤ w / 1048576 * f ∧ w / 1048576 * f ≤ 1073741824 ∧ 0 ≤ w % 1048576 * f ∧ w % 1048576 * f ≤ 1099511627776 := by
  refine ⟨Int.mul_nonneg (by omega) hf.1, ?_, Int.mul_nonneg (by omega) hf.1, ?_⟩
  · have := Int.mul_le_mul (show w / 1048576 ≤ 1024 by omega) hf.2 hf.1 (by decide)
    omega
  · have := Int.mul_le_mul (show w % 1048576 ≤ 1048576 by omega) hf.2 hf.1 (by decide)
    omega
theorem sar4 (x : Int) : bshr .i64 x 4 = x / 16 := by
  unfold bshr
  rw [show ((2 : Int) ^ min 4 IntKind.i64.bits) = 16 by decide]
  exact Int.fdiv_eq_ediv_of_nonneg _ (by decide)
theorem sar1 (x : Int) : bshr .i64 x 1 = x / 2 := by
  unfold bshr
  rw [show ((2 : Int) ^ min 1 IntKind.i64.bits) = 2 by decide]
  exact Int.fdiv_eq_ediv_of_nonneg _ (by decide)

/-- leat/sat.Add -/
noncomputable def B83 : Code := bodyOf Try.f83
set_option maxHeartbeats 1000000 in
theorem AddR_ok (a b : Int) (ha : (-1099511627776 ≤ a ∧ a ≤ 1099511627776)) (hb : (-1099511627776 ≤ b ∧ b ≤ 1099511627776)) (G : Mem) : CallsG Try.prog 83 [.int .i64 a, .int .i64 b] G (fun _ v rows => v = .int .i64 (a + b) ∧ rows = []) := by
  refine CallsG.enter Try.func83 rfl rfl ?_
  intro w
  refine X.run 10 [0, 1, 4, 8] [] (.ops (aA B83 [1, 0]) (oA B83 [1, 0] 3 :: lA B83 [1, 0] 4)) [.seq (cA B83 [1, 1])] ⟨21, [(0, .v (.int .i64 a)), (1, .v (.int .i64 b)), (4, .v (.int .i64 0)), (8, .v (.int .i64 (IntKind.i64.wrap (a + b))))], []⟩ (by kernel_rfl) ?_
  refine X.known 8 (y := .v (.int .i64 (a + b))) rfl (congrArg (fun z_ => AV.v (.int .i64 z_)) (wi64 (by omega) (by omega))) ?_
  refine X.run 16 [0, 4, 5, 16] [] (.code (cA B83 [1, 1, 0, 1])) [.seq (cA B83 [1, 1, 1])] ⟨21, [(0, .v (.int .i64 a)), (4, .v (.int .i64 0)), (5, .v (.int .i64 (a + b))), (16, .v (.bool (decide (band .i64 (bxor .i64 a (a + b)) (bxor .i64 b (a + b)) < 0))))], []⟩ (by kernel_rfl) ?_
  refine X.isFalse 16 rfl (decide_eq_false (add_ok ha hb)) ?_
  refine X.run 10 [4] [] (.ex .ret) [] ⟨21, [(4, .v (.int .i64 (a + b)))], []⟩ (by kernel_rfl) ?_
  refine doneG (.inl rfl) [.int .i64 (a + b)] [] (by kernel_rfl) rfl rfl (Ge.refl _ _) ?_
  -- end 1 ()
  exact ⟨rfl, rfl⟩

/-- leat/sat.Sub -/
noncomputable def B92 : Code := bodyOf Try.f92
set_option maxHeartbeats 1000000 in
theorem SubR_ok (a b : Int) (ha : (-1099511627776 ≤ a ∧ a ≤ 1099511627776)) (hb : (-1099511627776 ≤ b ∧ b ≤ 1099511627776)) (G : Mem) : CallsG Try.prog 92 [.int .i64 a, .int .i64 b] G (fun _ v rows => v = .int .i64 (a - b) ∧ rows = []) := by
  refine CallsG.enter Try.func92 rfl rfl ?_
  intro w
  refine X.run 10 [0, 1, 4, 8] [] (.ops (aA B92 [1, 0]) (oA B92 [1, 0] 3 :: lA B92 [1, 0] 4)) [.seq (cA B92 [1, 1])] ⟨21, [(0, .v (.int .i64 a)), (1, .v (.int .i64 b)), (4, .v (.int .i64 0)), (8, .v (.int .i64 (IntKind.i64.wrap (a - b))))], []⟩ (by kernel_rfl) ?_
  refine X.known 8 (y := .v (.int .i64 (a - b))) rfl (congrArg (fun z_ => AV.v (.int .i64 z_)) (wi64 (by omega) (by omega))) ?_
  refine X.run 16 [0, 4, 5, 16] [] (.code (cA B92 [1, 1, 0, 1])) [.seq (cA B92 [1, 1, 1])] ⟨21, [(0, .v (.int .i64 a)), (4, .v (.int .i64 0)), (5, .v (.int .i64 (a - b))), (16, .v (.bool (decide (band .i64 (bxor .i64 a b) (bxor .i64 a (a - b)) < 0))))], []⟩ (by kernel_rfl) ?_
  refine X.isFalse 16 rfl (decide_eq_false (sub_ok ha hb)) ?_
  refine X.run 10 [4] [] (.ex .ret) [] ⟨21, [(4, .v (.int .i64 (a - b)))], []⟩ (by kernel_rfl) ?_
  refine doneG (.inl rfl) [.int .i64 (a - b)] [] (by kernel_rfl) rfl rfl (Ge.refl _ _) ?_
  -- end 1 ()
  exact ⟨rfl, rfl⟩

/-- leat/fixed.Toward -/
noncomputable def B70 : Code := bodyOf Try.f70
set_option maxHeartbeats 1000000 in
theorem Toward_ok (x y : Int) (hx : 0 ≤ x ∧ x ≤ 1048576) (hy : 0 ≤ y ∧ y ≤ 1048576) (G : Mem) : CallsG Try.prog 70 [.int .i64 x, .int .i64 y, .int .i64 4] G (fun _ v rows => v = .int .i64 (tw x y) ∧ rows = []) := by
  refine CallsG.enter Try.func70 rfl rfl ?_
  intro w
  refine X.run 18 [2, 6, 10, 11, 12] [] (.ops (aA B70 [1, 1, 0]) (oA B70 [1, 1, 0] 3 :: lA B70 [1, 1, 0] 4)) [.seq (cA B70 [1, 1, 1])] ⟨17, [(2, .v (.int .i64 4)), (6, .v (.int .i64 0)), (10, .v (.int .i64 x)), (11, .v (.int .i64 y)), (12, .v (.int .i64 x))], []⟩ (by kernel_rfl) ?_
  refine X.callG (f := 92) (l := [.v (.int .i64 y), .v (.int .i64 x)]) [.int .i64 y, .int .i64 x] 0 (by kernel_rfl) (by kernel_rfl) (by kernel_rfl) (SubR_ok y x (by omega) (by omega) _) ?_
  rintro v1 G1 rows1 hG1 ⟨rfl, rfl⟩
  refine X.run 2 [6, 10, 15] [] (.ops (aA B70 [1, 1, 0]) (oA B70 [1, 1, 0] 6 :: lA B70 [1, 1, 0] 7)) [.seq (cA B70 [1, 1, 1])] ⟨17, [(6, .v (.int .i64 0)), (10, .v (.int .i64 x)), (15, .v (.int .i64 (bshr .i64 (y - x) 4)))], []⟩ (by kernel_rfl) ?_
  refine X.known 15 (y := .v (.int .i64 ((y - x) / 16))) rfl (congrArg (fun z_ => AV.v (.int .i64 z_)) (sar4 _)) ?_
  refine X.callG (f := 83) (l := [.v (.int .i64 x), .v (.int .i64 ((y - x) / 16))]) [.int .i64 x, .int .i64 ((y - x) / 16)] 0 (by kernel_rfl) (by kernel_rfl) (by kernel_rfl) (AddR_ok x ((y - x) / 16) (by omega) (by omega) _) ?_
  rintro v2 G2 rows2 hG2 ⟨rfl, rfl⟩
  refine X.run 4 [6] [] (.ex .ret) [] ⟨17, [(6, .v (.int .i64 (x + ((y - x) / 16))))], []⟩ (by kernel_rfl) ?_
  refine doneG (.inl rfl) [.int .i64 (x + ((y - x) / 16))] [] (by kernel_rfl) rfl rfl ((hG1.trans hG2)) ?_
  -- end 1 ()
  exact ⟨rfl, rfl⟩

/-- leat/sat.Div -/
noncomputable def B74 : Code := bodyOf Try.f74
set_option maxHeartbeats 1000000 in
theorem DivOne_ok (u : Int) (hw : 0 ≤ u ∧ u ≤ 1073741824) (G : Mem) : CallsG Try.prog 74 [.int .i64 u, .int .i64 1048576] G (fun _ v rows => v = .int .i64 (u / 1048576) ∧ rows = []) := by
  refine CallsG.enter Try.func74 rfl rfl ?_
  intro w
  refine X.run 21 [0, 1, 4, 10] [] (.ops (aA B74 [1, 1, 0, 0]) (oA B74 [1, 1, 0, 0] 3 :: lA B74 [1, 1, 0, 0] 4)) [.seq (cA B74 [1, 1, 0, 1]), .seq (cA B74 [1, 1, 1])] ⟨31, [(0, .v (.int .i64 u)), (1, .v (.int .i64 1048576)), (4, .v (.int .i64 0)), (10, .v (.bool (u == (-9223372036854775808))))], []⟩ (by kernel_rfl) ?_
  refine X.isFalse 10 rfl (by simp; omega) ?_
  refine X.run 13 [0, 1, 4, 16] [] (.ops (aA B74 [1, 1, 1, 0]) (oA B74 [1, 1, 1, 0] 3 :: lA B74 [1, 1, 1, 0] 4)) [.seq (cA B74 [1, 1, 1, 1])] ⟨31, [(0, .v (.int .i64 u)), (1, .v (.int .i64 1048576)), (4, .v (.int .i64 0)), (16, .v (.int .i64 (IntKind.i64.wrap (Int.tdiv u 1048576))))], []⟩ (by kernel_rfl) ?_
  refine X.known 16 (y := .v (.int .i64 (u / 1048576))) rfl (congrArg (fun z_ => AV.v (.int .i64 z_)) (wdiv_i64 (by omega) (by omega) (by omega))) ?_
  refine X.run 9 [0, 1, 4, 5, 19] [] (.ops (aA B74 [1, 1, 1, 1, 0, 0]) (oA B74 [1, 1, 1, 1, 0, 0] 3 :: lA B74 [1, 1, 1, 1, 0, 0] 4)) [.seq (cA B74 [1, 1, 1, 1, 0, 1]), .seq (cA B74 [1, 1, 1, 1, 1])] ⟨31, [(0, .v (.int .i64 u)), (1, .v (.int .i64 1048576)), (4, .v (.int .i64 0)), (5, .v (.int .i64 (u / 1048576))), (19, .v (.int .i64 (Int.tmod u 1048576)))], []⟩ (by kernel_rfl) ?_
  refine X.known 19 (y := .v (.int .i64 (u % 1048576))) rfl (congrArg (fun z_ => AV.v (.int .i64 z_)) (Int.tmod_eq_emod_of_nonneg (by omega))) ?_
  refine X.run 2 [0, 1, 4, 5, 21] [] (.ops (aA B74 [1, 1, 1, 1, 0, 0]) (oA B74 [1, 1, 1, 1, 0, 0] 5 :: lA B74 [1, 1, 1, 1, 0, 0] 6)) [.seq (cA B74 [1, 1, 1, 1, 0, 1]), .seq (cA B74 [1, 1, 1, 1, 1])] ⟨31, [(0, .v (.int .i64 u)), (1, .v (.int .i64 1048576)), (4, .v (.int .i64 0)), (5, .v (.int .i64 (u / 1048576))), (21, .v (.bool ((u % 1048576) != 0)))], []⟩ (by kernel_rfl) ?_
  refine X.split 21 rfl (fun h1 => ?_) (fun h1 => ?_)
  · -- slot 21: (u % 1048576) != 0 is True
    replace h1 : (u % 1048576) ≠ 0 := by simpa using h1
    refine X.run 8 [4, 5, 27] [] (.code (cA B74 [1, 1, 1, 1, 0, 1])) [.seq (cA B74 [1, 1, 1, 1, 1])] ⟨31, [(4, .v (.int .i64 0)), (5, .v (.int .i64 (u / 1048576))), (27, .v (.bool (!((decide (u < 0)) == false))))], []⟩ (by kernel_rfl) ?_
    refine X.isFalse 27 rfl (by rw [decide_eq_false (by omega)]; rfl) ?_
    refine X.run 10 [4] [] (.ex .ret) [] ⟨31, [(4, .v (.int .i64 (u / 1048576)))], []⟩ (by kernel_rfl) ?_
    refine doneG (.inl rfl) [.int .i64 (u / 1048576)] [] (by kernel_rfl) rfl rfl (Ge.refl _ _) ?_
    -- end 1 (T)
    exact ⟨rfl, rfl⟩
  · -- slot 21: (u % 1048576) != 0 is False
    replace h1 : (u % 1048576) = 0 := by simpa using h1
    refine X.run 18 [4] [] (.ex .ret) [] ⟨31, [(4, .v (.int .i64 (u / 1048576)))], []⟩ (by kernel_rfl) ?_
    refine doneG (.inl rfl) [.int .i64 (u / 1048576)] [] (by kernel_rfl) rfl rfl (Ge.refl _ _) ?_
    -- end 2 (F)
    exact ⟨rfl, rfl⟩

/-- leat/sat.Mod -/
noncomputable def B94 : Code := bodyOf Try.f94
set_option maxHeartbeats 1000000 in
theorem ModOne_ok (u : Int) (hw : 0 ≤ u ∧ u ≤ 1073741824) (G : Mem) : CallsG Try.prog 94 [.int .i64 u, .int .i64 1048576] G (fun _ v rows => v = .int .i64 (u % 1048576) ∧ rows = []) := by
  refine CallsG.enter Try.func94 rfl rfl ?_
  intro w
  refine X.run 21 [0, 1, 4, 10] [] (.ops (aA B94 [1, 1, 0, 0]) (oA B94 [1, 1, 0, 0] 3 :: lA B94 [1, 1, 0, 0] 4)) [.seq (cA B94 [1, 1, 0, 1]), .seq (cA B94 [1, 1, 1])] ⟨19, [(0, .v (.int .i64 u)), (1, .v (.int .i64 1048576)), (4, .v (.int .i64 0)), (10, .v (.int .i64 (Int.tmod u 1048576)))], []⟩ (by kernel_rfl) ?_
  refine X.known 10 (y := .v (.int .i64 (u % 1048576))) rfl (congrArg (fun z_ => AV.v (.int .i64 z_)) (Int.tmod_eq_emod_of_nonneg (by omega))) ?_
  refine X.run 9 [0, 1, 4, 5, 12] [] (.code (cA B94 [1, 1, 0, 1, 1])) [.seq (cA B94 [1, 1, 1])] ⟨19, [(0, .v (.int .i64 u)), (1, .v (.int .i64 1048576)), (4, .v (.int .i64 0)), (5, .v (.int .i64 (u % 1048576))), (12, .v (.bool (decide (u % 1048576 < 0))))], []⟩ (by kernel_rfl) ?_
  refine X.isFalse 12 rfl (decide_eq_false (by omega)) ?_
  refine X.run 8 [4, 18] [] (.ops (aA B94 [1, 1, 1, 0]) (oA B94 [1, 1, 1, 0] 3 :: lA B94 [1, 1, 1, 0] 4)) [.seq (cA B94 [1, 1, 1, 1])] ⟨19, [(4, .v (.int .i64 0)), (18, .v (.int .i64 (Int.tmod u 1048576)))], []⟩ (by kernel_rfl) ?_
  refine X.known 18 (y := .v (.int .i64 (u % 1048576))) rfl (congrArg (fun z_ => AV.v (.int .i64 z_)) (Int.tmod_eq_emod_of_nonneg (by omega))) ?_
  refine X.run 4 [4] [] (.ex .ret) [] ⟨19, [(4, .v (.int .i64 (u % 1048576)))], []⟩ (by kernel_rfl) ?_
  refine doneG (.inl rfl) [.int .i64 (u % 1048576)] [] (by kernel_rfl) rfl rfl (Ge.refl _ _) ?_
  -- end 1 ()
  exact ⟨rfl, rfl⟩

/-- leat/fixed.share -/
noncomputable def B93 : Code := bodyOf Try.f93

/-- leat/fixed.Part -/
noncomputable def B72 : Code := bodyOf Try.f72
set_option maxHeartbeats 1000000 in
theorem Part_ok (u f : Int) (hw : 0 ≤ u ∧ u ≤ 1073741824) (hf : 0 ≤ f ∧ f ≤ 1048576) (G : Mem) : CallsG Try.prog 72 [.int .i64 u, .int .i64 f] G (fun _ v rows => v = .int .i64 (pt u f) ∧ rows = []) := by
  obtain ⟨hb1, hb2, hb3, hb4⟩ := pt_bounds hw hf
  refine CallsG.enter Try.func72 rfl rfl ?_
  intro w
  refine X.run 8 [0, 1, 4, 7] [] (.ops (aA B72 [1, 0]) (oA B72 [1, 0] 1 :: lA B72 [1, 0] 2)) [.seq (cA B72 [1, 1])] ⟨21, [(0, .v (.int .i64 u)), (1, .v (.int .i64 f)), (4, .v (.int .i64 0)), (7, .v (.int .i64 f))], []⟩ (by kernel_rfl) ?_
  refine X.inline (f := 93) (l := [.v (.int .i64 f)]) (fn := Try.f93) (c := B93) (by kernel_rfl) (by kernel_rfl) Try.func93 (by kernel_rfl) ?_
  intro Q1 M1 hM1 hQ1 fin1
  refine X.run 8 [2, 3] [] (.ops (aA B93 [1, 0]) (oA B93 [1, 0] 1 :: lA B93 [1, 0] 2)) [.seq (cA B93 [1, 1])] ⟨5, [(2, .v (.int .i64 0)), (3, .v (.int .i64 f))], []⟩ (by kernel_rfl) ?_
  refine X.callG (f := 66) (l := [.v (.int .i64 f), .v (.int .i64 0), .v (.int .i64 1048576)]) [.int .i64 f, .int .i64 0, .int .i64 1048576] 0 (by kernel_rfl) (by kernel_rfl) (by kernel_rfl) (Clamp_ok f 0 1048576 _) ?_
  rintro v2 G2 rows2 hG2 ⟨rfl, rfl⟩
  refine X.run 4 [2] [] (.ex .ret) [] ⟨5, [(2, .v (.int .i64 (max 0 (min f 1048576))))], []⟩ (by kernel_rfl) ?_
  refine fin1 _ _ _ _ [.int .i64 (max 0 (min f 1048576))] [] (.inl rfl) (by kernel_rfl) (by kernel_rfl) ?_
  refine X.run 1 [0, 1, 4] [] (.ops (aA B72 [1, 0]) ([])) [.seq (cA B72 [1, 1])] ⟨21, [(0, .v (.int .i64 u)), (1, .v (.int .i64 (max 0 (min f 1048576)))), (4, .v (.int .i64 0))], []⟩ (by kernel_rfl) ?_
  refine X.known 1 (y := .v (.int .i64 f)) rfl (congrArg (fun z_ => AV.v (.int .i64 z_)) (by omega)) ?_
  refine X.run 5 [0, 1, 4, 9] [] (.ops (aA B72 [1, 1, 0]) (oA B72 [1, 1, 0] 1 :: lA B72 [1, 1, 0] 2)) [.seq (cA B72 [1, 1, 1])] ⟨21, [(0, .v (.int .i64 u)), (1, .v (.int .i64 f)), (4, .v (.int .i64 0)), (9, .v (.int .i64 u))], []⟩ (by kernel_rfl) ?_
  refine X.callG (f := 74) (l := [.v (.int .i64 u), .v (.int .i64 1048576)]) [.int .i64 u, .int .i64 1048576] 0 (by kernel_rfl) (by kernel_rfl) (by kernel_rfl) (DivOne_ok u (by omega) _) ?_
  rintro v3 G3 rows3 hG3 ⟨rfl, rfl⟩
  refine X.run 1 [1, 4, 10, 11] [] (.ops (aA B72 [1, 1, 0]) (oA B72 [1, 1, 0] 3 :: lA B72 [1, 1, 0] 4)) [.seq (cA B72 [1, 1, 1])] ⟨21, [(1, .v (.int .i64 f)), (4, .v (.int .i64 0)), (10, .v (.int .i64 (u / 1048576))), (11, .v (.int .i64 u))], []⟩ (by kernel_rfl) ?_
  refine X.callG (f := 94) (l := [.v (.int .i64 u), .v (.int .i64 1048576)]) [.int .i64 u, .int .i64 1048576] 0 (by kernel_rfl) (by kernel_rfl) (by kernel_rfl) (ModOne_ok u (by omega) _) ?_
  rintro v4 G4 rows4 hG4 ⟨rfl, rfl⟩
  refine X.run 9 [1, 4, 6, 15] [] (.ops (aA B72 [1, 1, 1, 0]) (oA B72 [1, 1, 1, 0] 3 :: lA B72 [1, 1, 1, 0] 4)) [.seq (cA B72 [1, 1, 1, 1])] ⟨21, [(1, .v (.int .i64 f)), (4, .v (.int .i64 0)), (6, .v (.int .i64 (u % 1048576))), (15, .v (.int .i64 (IntKind.i64.wrap ((u / 1048576) * f))))], []⟩ (by kernel_rfl) ?_
  refine X.known 15 (y := .v (.int .i64 ((u / 1048576) * f))) rfl (congrArg (fun z_ => AV.v (.int .i64 z_)) (wi64 (by omega) (by omega))) ?_
  refine X.run 3 [4, 15, 18] [] (.ops (aA B72 [1, 1, 1, 0]) (oA B72 [1, 1, 1, 0] 6 :: lA B72 [1, 1, 1, 0] 7)) [.seq (cA B72 [1, 1, 1, 1])] ⟨21, [(4, .v (.int .i64 0)), (15, .v (.int .i64 ((u / 1048576) * f))), (18, .v (.int .i64 (IntKind.i64.wrap ((u % 1048576) * f))))], []⟩ (by kernel_rfl) ?_
  refine X.known 18 (y := .v (.int .i64 ((u % 1048576) * f))) rfl (congrArg (fun z_ => AV.v (.int .i64 z_)) (wi64 (by omega) (by omega))) ?_
  refine X.run 1 [4, 15, 19] [] (.ops (aA B72 [1, 1, 1, 0]) (oA B72 [1, 1, 1, 0] 7 :: lA B72 [1, 1, 1, 0] 8)) [.seq (cA B72 [1, 1, 1, 1])] ⟨21, [(4, .v (.int .i64 0)), (15, .v (.int .i64 ((u / 1048576) * f))), (19, .v (.int .i64 (IntKind.i64.wrap (Int.tdiv ((u % 1048576) * f) 1048576))))], []⟩ (by kernel_rfl) ?_
  refine X.known 19 (y := .v (.int .i64 (((u % 1048576) * f) / 1048576))) rfl (congrArg (fun z_ => AV.v (.int .i64 z_)) (wdiv_i64 (by omega) (by omega) (by omega))) ?_
  refine X.run 1 [4, 20] [] (.ops (aA B72 [1, 1, 1, 0]) (oA B72 [1, 1, 1, 0] 8 :: lA B72 [1, 1, 1, 0] 9)) [.seq (cA B72 [1, 1, 1, 1])] ⟨21, [(4, .v (.int .i64 0)), (20, .v (.int .i64 (IntKind.i64.wrap (((u / 1048576) * f) + (((u % 1048576) * f) / 1048576)))))], []⟩ (by kernel_rfl) ?_
  refine X.known 20 (y := .v (.int .i64 (((u / 1048576) * f) + (((u % 1048576) * f) / 1048576)))) rfl (congrArg (fun z_ => AV.v (.int .i64 z_)) (wi64 (by omega) (by omega))) ?_
  refine X.run 4 [4] [] (.ex .ret) [] ⟨21, [(4, .v (.int .i64 (((u / 1048576) * f) + (((u % 1048576) * f) / 1048576))))], []⟩ (by kernel_rfl) ?_
  refine doneG (.inl rfl) [.int .i64 (((u / 1048576) * f) + (((u % 1048576) * f) / 1048576))] [] (by kernel_rfl) rfl rfl (((hG2.trans hG3).trans hG4)) ?_
  -- end 2 ()
  exact ⟨by rw [← pt_eq u f]; rfl, rfl⟩

/-- leat/fixed.Halve -/
noncomputable def B73 : Code := bodyOf Try.f73
set_option maxHeartbeats 1000000 in
theorem Halve_ok (x : Int) (G : Mem) : CallsG Try.prog 73 [.int .i64 x, .int .i64 1] G (fun _ v rows => v = .int .i64 (x / 2) ∧ rows = []) := by
  refine CallsG.enter Try.func73 rfl rfl ?_
  intro w
  refine X.run 15 [0, 4, 7, 8] [] (.code (cA B73 [1, 0, 1, 0])) [.blk 0, .seq (cA B73 [1, 1])] ⟨14, [(0, .v (.int .i64 x)), (4, .v (.int .i64 0)), (7, .v (.int .i64 1)), (8, .v (.int .i64 0))], []⟩ (by kernel_rfl) ?_
  refine X.rounds 3 ?_
  refine RX.succ fun J1 hJ1 => ?_
  refine X.run 14 [0, 4, 7, 8, 9, 10, 11] [] (.ops (aA B73 [1, 0, 1, 0, 0, 1, 1, 0, 0]) (oA B73 [1, 0, 1, 0, 0, 1, 1, 0, 0] 2 :: lA B73 [1, 0, 1, 0, 0, 1, 1, 0, 0] 3)) [.blk 1, .seq (cA B73 [1, 0, 1, 0, 0, 1, 1, 1]), .loop J1, .blk 0, .seq (cA B73 [1, 1])] ⟨14, [(0, .v (.int .i64 x)), (4, .v (.int .i64 0)), (7, .v (.int .i64 1)), (8, .v (.int .i64 0)), (9, .v (.bool true)), (10, .v (.int .i64 x)), (11, .v (.int .i64 (bshr .i64 x 1)))], []⟩ (by kernel_rfl) ?_
  refine X.known 11 (y := .v (.int .i64 (x / 2))) rfl (congrArg (fun z_ => AV.v (.int .i64 z_)) (sar1 _)) ?_
  refine X.run 8 [0, 4, 7, 8, 9, 10, 11, 12] [] (.ex .normal) [.loop J1, .blk 0, .seq (cA B73 [1, 1])] ⟨14, [(0, .v (.int .i64 (x / 2))), (4, .v (.int .i64 0)), (7, .v (.int .i64 1)), (8, .v (.int .i64 1)), (9, .v (.bool true)), (10, .v (.int .i64 x)), (11, .v (.int .i64 (x / 2))), (12, .v (.int .i64 1))], []⟩ (by kernel_rfl) ?_
  refine X.again (hJ1 _ _ _ ?_)
  refine RX.succ fun J2 hJ2 => ?_
  refine X.run 19 [4] [] (.ex .ret) [] ⟨14, [(4, .v (.int .i64 (x / 2)))], []⟩ (by kernel_rfl) ?_
  refine doneG (.inl rfl) [.int .i64 (x / 2)] [] (by kernel_rfl) rfl rfl (Ge.refl _ _) ?_
  -- end 1 ()
  exact ⟨rfl, rfl⟩

end Go.Proofs.YthpinlcfcgnilaaX
