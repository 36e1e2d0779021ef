/- count.Take, leatref15.Take, leatref30.Has, without: walked. Printed by a small program of this session. Conditions: none. -/
import Derived.Test.YthpinlcfcgnilaaProg
import Derived.KernelRfl
import Derived.Test.YthpinlcfcgnilaaXR1
import Derived.Test.YthpinlcfcgnilaaXML
import Derived.Test.YthpinlcfcgnilaaXSG
namespace Go.Proofs.YthpinlcfcgnilaaX
open Go.RowKit
open Go.Proofs.YthpinlcfcgnilaaW.PrintLast Go.Proofs.YthpinlcfcgnilaaW.PrintWords
set_option linter.unusedVariables false
set_option linter.unusedSimpArgs false
set_option maxRecDepth 100000
theorem band_lowS {a : Int} {m : Nat} (hm : m < 63) : band .i64 a ((2 ^ m - 1 : Nat) : Int) = a % 2 ^ m := by
  have hp : (0 : Int) < 2 ^ m := Int.pow_pos (by decide)
  have hp2 : (2 : Int) ^ m ≤ 2 ^ 62 := by
    have : (2 : Nat) ^ m ≤ 2 ^ 62 := Nat.pow_le_pow_right (by decide) (by omega)
    have h2 : ((2 ^ m : Nat) : Int) ≤ ((2 ^ 62 : Nat) : Int) := by exact_mod_cast this
    simpa using h2
  have hn1 : 2 ^ m - 1 < 2 ^ 64 := by
    have : (2 : Nat) ^ m ≤ 2 ^ 62 := Nat.pow_le_pow_right (by decide) (by omega)
    omega
  have h1 : (BitVec.ofInt 64 a &&& BitVec.ofInt 64 ((2 ^ m - 1 : Nat) : Int)).toNat = (a % 2 ^ 64).toNat % 2 ^ m := by
    rw [BitVec.toNat_and, ofInt_nat hn1, Nat.and_two_pow_sub_one_eq_mod, BitVec.toNat_ofInt]
    rfl
  have h2 : (((a % 2 ^ 64).toNat % 2 ^ m : Nat) : Int) = a % 2 ^ m := by
    rw [Int.natCast_emod, Int.toNat_of_nonneg (Int.emod_nonneg a (by decide))]
    have hd : ((2 : Int) ^ m) ∣ 18446744073709551616 := ⟨2 ^ (64 - m), by rw [← Int.pow_add, show m + (64 - m) = 64 by omega]; rfl⟩
    push_cast
    exact Int.emod_emod_of_dvd a hd
  show IntKind.i64.wrap (((BitVec.ofInt 64 a &&& BitVec.ofInt 64 ((2 ^ m - 1 : Nat) : Int)).toNat : Nat) : Int) = _
  rw [h1, h2]
  have := Int.emod_nonneg a (Int.ne_of_gt hp)
  have := Int.emod_lt_of_pos a hp
  exact wi64 (by omega) (by omega)
theorem band1S (a : Int) : band .i64 a 1 = a % 2 := band_lowS (m := 1) (by decide)
theorem band7S (a : Int) : band .i64 a 7 = a % 8 := band_lowS (m := 3) (by decide)
theorem band24S (a : Int) : band .i64 a 16777215 = a % 16777216 := band_lowS (m := 24) (by decide)

theorem mem_take_succ {ks : List Int} {i : Nat} {j : Int} (h : i < ks.length) : j ∈ ks.take (i + 1) ↔ j ∈ ks.take i ∨ j = ks.getD i 0 := by
  rw [List.take_succ_eq_append_getElem h, List.mem_append, List.mem_singleton]
  simp [h]
theorem filter_take_succ {ks : List Int} {i : Nat} {j : Int} (h : i < ks.length) : (ks.take (i + 1)).filter (fun k => k != j) = (ks.take i).filter (fun k => k != j) ++ (if ks.getD i 0 ≠ j then [ks.getD i 0] else []) := by
  rw [List.take_succ_eq_append_getElem h, List.filter_append]
  congr 1
  have e : ks.getD i 0 = ks[i] := by simp [h]
  rw [e]
  by_cases hj : ks[i] = j
  · simp [hj]
  · simp [hj]

/-- leat/sat.end -/
noncomputable def B99 : Code := bodyOf Try.f99

set_option maxHeartbeats 1000000 in
theorem SatAddG_ok (a b : Int) (ha : r64 a) (hb : r64 b) (G : Mem) : CallsG Try.prog 83 [.int .i64 a, .int .i64 b] G (fun _ v rows => v = .int .i64 (sadd a b) ∧ rows = []) := by
  refine CallsG.enter Try.func83 rfl rfl ?_
  intro w
  refine X.run 26 [0, 4, 5, 16] [] (.code (cA B83 [1, 1, 0, 1])) [.seq (cA B83 [1, 1, 1])] ⟨21, [(0, .v (.int .i64 a)), (4, .v (.int .i64 0)), (5, .v (.int .i64 (IntKind.i64.wrap (a + b)))), (16, .v (.bool (decide (band .i64 (bxor .i64 a (IntKind.i64.wrap (a + b))) (bxor .i64 b (IntKind.i64.wrap (a + b))) < 0))))], []⟩ (by kernel_rfl) ?_
  refine X.split 16 rfl (fun h1 => ?_) (fun h1 => ?_)
  · -- slot 16: decide (band .i64 (bxor .i64 a (IntKind.i64.wrap (a + b))) (bxor .i64 b (IntKind.i64.wrap (a + b))) < 0) is True
    replace h1 : band .i64 (bxor .i64 a (IntKind.i64.wrap (a + b))) (bxor .i64 b (IntKind.i64.wrap (a + b))) < 0 := of_decide_eq_true h1
    refine X.run 5 [4, 5, 18] [] (.ops (aA B83 [1, 1, 0, 1, 0, 0]) (oA B83 [1, 1, 0, 1, 0, 0] 2 :: lA B83 [1, 1, 0, 1, 0, 0] 3)) [.seq (cA B83 [1, 1, 0, 1, 0, 1]), .seq (cA B83 [1, 1, 1])] ⟨21, [(4, .v (.int .i64 0)), (5, .v (.int .i64 (IntKind.i64.wrap (a + b)))), (18, .v (.bool (decide (a < 0))))], []⟩ (by kernel_rfl) ?_
    refine X.inline (f := 99) (l := [.v (.bool (decide (a < 0)))]) (fn := Try.f99) (c := B99) (by kernel_rfl) (by kernel_rfl) Try.func99 (by kernel_rfl) ?_
    intro Q2 M2 hM2 hQ2 fin2
    refine X.run 11 [2, 3] [] (.code (cA B99 [1, 0, 1])) [.seq (cA B99 [1, 1])] ⟨4, [(2, .v (.int .i64 0)), (3, .v (.bool (decide (a < 0))))], []⟩ (by kernel_rfl) ?_
    refine X.split 3 rfl (fun h3 => ?_) (fun h3 => ?_)
    · -- slot 3: decide (a < 0) is True
      replace h3 : a < 0 := of_decide_eq_true h3
      refine X.run 8 [2] [] (.ex .ret) [] ⟨4, [(2, .v (.int .i64 (-9223372036854775808)))], []⟩ (by kernel_rfl) ?_
      refine fin2 _ _ _ _ [.int .i64 (-9223372036854775808)] [] (.inl rfl) (by kernel_rfl) (by kernel_rfl) ?_
      refine X.run 5 [4] [] (.ex .ret) [] ⟨21, [(4, .v (.int .i64 (-9223372036854775808)))], []⟩ (by kernel_rfl) ?_
      refine doneG (.inl rfl) [.int .i64 (-9223372036854775808)] [] (by kernel_rfl) rfl rfl (Ge.refl _ _) ?_
      -- end 2 (TT)
      refine ⟨?_, rfl⟩
      have h_ := (sat_over ha hb).mp (by assumption)
      unfold r64 at ha hb h_
      show Value.int .i64 _ = _
      congr 1
      unfold sadd
      omega
    · -- slot 3: decide (a < 0) is False
      replace h3 : ¬ (a < 0) := of_decide_eq_false h3
      refine X.run 9 [2] [] (.ex .ret) [] ⟨4, [(2, .v (.int .i64 9223372036854775807))], []⟩ (by kernel_rfl) ?_
      refine fin2 _ _ _ _ [.int .i64 9223372036854775807] [] (.inl rfl) (by kernel_rfl) (by kernel_rfl) ?_
      refine X.run 5 [4] [] (.ex .ret) [] ⟨21, [(4, .v (.int .i64 9223372036854775807))], []⟩ (by kernel_rfl) ?_
      refine doneG (.inl rfl) [.int .i64 9223372036854775807] [] (by kernel_rfl) rfl rfl (Ge.refl _ _) ?_
      -- end 4 (TF)
      refine ⟨?_, rfl⟩
      have h_ := (sat_over ha hb).mp (by assumption)
      unfold r64 at ha hb h_
      show Value.int .i64 _ = _
      congr 1
      unfold sadd
      omega
  · -- slot 16: decide (band .i64 (bxor .i64 a (IntKind.i64.wrap (a + b))) (bxor .i64 b (IntKind.i64.wrap (a + b))) < 0) is False
    replace h1 : ¬ (band .i64 (bxor .i64 a (IntKind.i64.wrap (a + b))) (bxor .i64 b (IntKind.i64.wrap (a + b))) < 0) := of_decide_eq_false h1
    refine X.run 10 [4] [] (.ex .ret) [] ⟨21, [(4, .v (.int .i64 (IntKind.i64.wrap (a + b))))], []⟩ (by kernel_rfl) ?_
    refine doneG (.inl rfl) [.int .i64 (IntKind.i64.wrap (a + b))] [] (by kernel_rfl) rfl rfl (Ge.refl _ _) ?_
    -- end 5 (F)
    refine ⟨?_, rfl⟩
    have h_ : r64 (a + b) := Classical.byContradiction fun hr_ => absurd ((sat_over ha hb).mpr hr_) (by assumption)
    rw [← sadd_in h_]
    rfl

/-- leat/leatref01.Add -/
noncomputable def B84 : Code := bodyOf Try.f84
set_option maxHeartbeats 1000000 in
theorem rAddG_ok (a b : Int) (ha : r64 a) (hb : r64 b) (G : Mem) : CallsG Try.prog 84 [.int .i64 a, .int .i64 b] G (fun _ v rows => v = .int .i64 (sadd a b) ∧ rows = []) := by
  have ha0 := ha
  have hb0 := hb
  unfold r64 at ha hb
  refine CallsG.enter Try.func84 rfl rfl ?_
  intro w
  refine X.run 11 [0, 1, 4, 7] [] (.ops (aA B84 [1, 0, 0]) (oA B84 [1, 0, 0] 3 :: lA B84 [1, 0, 0] 4)) [.seq (cA B84 [1, 0, 1]), .seq (cA B84 [1, 1])] ⟨24, [(0, .v (.int .i64 a)), (1, .v (.int .i64 b)), (4, .v (.int .i64 0)), (7, .v (.bool (decide (b > 0))))], []⟩ (by kernel_rfl) ?_
  refine X.split 7 rfl (fun h1 => ?_) (fun h1 => ?_)
  · -- slot 7: decide (b > 0) is True
    replace h1 : b > 0 := of_decide_eq_true h1
    refine X.run 3 [0, 1, 4, 7, 8, 10] [] (.ops (aA B84 [1, 0, 0]) (oA B84 [1, 0, 0] 6 :: lA B84 [1, 0, 0] 7)) [.seq (cA B84 [1, 0, 1]), .seq (cA B84 [1, 1])] ⟨24, [(0, .v (.int .i64 a)), (1, .v (.int .i64 b)), (4, .v (.int .i64 0)), (7, .v (.bool true)), (8, .v (.int .i64 a)), (10, .v (.int .i64 (IntKind.i64.wrap (9223372036854775807 - b))))], []⟩ (by kernel_rfl) ?_
    refine X.known 10 (y := .v (.int .i64 (9223372036854775807 - b))) rfl (congrArg (fun z_ => AV.v (.int .i64 z_)) (wi64 (by omega) (by omega))) ?_
    refine X.run 4 [0, 1, 4, 12] [] (.code (cA B84 [1, 0, 1])) [.seq (cA B84 [1, 1])] ⟨24, [(0, .v (.int .i64 a)), (1, .v (.int .i64 b)), (4, .v (.int .i64 0)), (12, .v (.bool (decide (a > 9223372036854775807 - b))))], []⟩ (by kernel_rfl) ?_
    refine X.split 12 rfl (fun h2 => ?_) (fun h2 => ?_)
    · -- slot 12: decide (a > 9223372036854775807 - b) is True
      replace h2 : a > 9223372036854775807 - b := of_decide_eq_true h2
      refine X.run 8 [4] [] (.ex .ret) [] ⟨24, [(4, .v (.int .i64 9223372036854775807))], []⟩ (by kernel_rfl) ?_
      refine doneG (.inl rfl) [.int .i64 9223372036854775807] [] (by kernel_rfl) rfl rfl (Ge.refl _ _) ?_
      -- end 1 (TT)
      refine ⟨?_, rfl⟩
      show Value.int .i64 _ = _
      congr 1
      unfold sadd
      omega
    · -- slot 12: decide (a > 9223372036854775807 - b) is False
      replace h2 : ¬ (a > 9223372036854775807 - b) := of_decide_eq_false h2
      refine X.run 9 [0, 1, 4, 15] [] (.ops (aA B84 [1, 1, 0, 0]) (oA B84 [1, 1, 0, 0] 3 :: lA B84 [1, 1, 0, 0] 4)) [.seq (cA B84 [1, 1, 0, 1]), .seq (cA B84 [1, 1, 1])] ⟨24, [(0, .v (.int .i64 a)), (1, .v (.int .i64 b)), (4, .v (.int .i64 0)), (15, .v (.bool (decide (b < 0))))], []⟩ (by kernel_rfl) ?_
      refine X.split 15 rfl (fun h3 => ?_) (fun h3 => ?_)
      · -- slot 15: decide (b < 0) is True
        replace h3 : b < 0 := of_decide_eq_true h3
        refine X.run 3 [0, 1, 4, 15, 16, 18] [] (.ops (aA B84 [1, 1, 0, 0]) (oA B84 [1, 1, 0, 0] 6 :: lA B84 [1, 1, 0, 0] 7)) [.seq (cA B84 [1, 1, 0, 1]), .seq (cA B84 [1, 1, 1])] ⟨24, [(0, .v (.int .i64 a)), (1, .v (.int .i64 b)), (4, .v (.int .i64 0)), (15, .v (.bool true)), (16, .v (.int .i64 a)), (18, .v (.int .i64 (IntKind.i64.wrap ((-9223372036854775808) - b))))], []⟩ (by kernel_rfl) ?_
        refine X.known 18 (y := .v (.int .i64 ((-9223372036854775808) - b))) rfl (congrArg (fun z_ => AV.v (.int .i64 z_)) (wi64 (by omega) (by omega))) ?_
        refine X.run 4 [0, 1, 4, 20] [] (.code (cA B84 [1, 1, 0, 1])) [.seq (cA B84 [1, 1, 1])] ⟨24, [(0, .v (.int .i64 a)), (1, .v (.int .i64 b)), (4, .v (.int .i64 0)), (20, .v (.bool (decide (a < (-9223372036854775808) - b))))], []⟩ (by kernel_rfl) ?_
        refine X.split 20 rfl (fun h4 => ?_) (fun h4 => ?_)
        · -- slot 20: decide (a < (-9223372036854775808) - b) is True
          replace h4 : a < (-9223372036854775808) - b := of_decide_eq_true h4
          refine X.run 8 [4] [] (.ex .ret) [] ⟨24, [(4, .v (.int .i64 (-9223372036854775808)))], []⟩ (by kernel_rfl) ?_
          refine doneG (.inl rfl) [.int .i64 (-9223372036854775808)] [] (by kernel_rfl) rfl rfl (Ge.refl _ _) ?_
          -- end 2 (TFTT)
          refine ⟨?_, rfl⟩
          show Value.int .i64 _ = _
          congr 1
          unfold sadd
          omega
        · -- slot 20: decide (a < (-9223372036854775808) - b) is False
          replace h4 : ¬ (a < (-9223372036854775808) - b) := of_decide_eq_false h4
          refine X.run 12 [4] [] (.ex .ret) [] ⟨24, [(4, .v (.int .i64 (IntKind.i64.wrap (a + b))))], []⟩ (by kernel_rfl) ?_
          refine doneG (.inl rfl) [.int .i64 (IntKind.i64.wrap (a + b))] [] (by kernel_rfl) rfl rfl (Ge.refl _ _) ?_
          -- end 3 (TFTF)
          refine ⟨?_, rfl⟩
          rw [sadd_in ⟨by omega, by omega⟩]
          rfl
      · -- slot 15: decide (b < 0) is False
        replace h3 : ¬ (b < 0) := of_decide_eq_false h3
        refine X.run 19 [4] [] (.ex .ret) [] ⟨24, [(4, .v (.int .i64 (IntKind.i64.wrap (a + b))))], []⟩ (by kernel_rfl) ?_
        refine doneG (.inl rfl) [.int .i64 (IntKind.i64.wrap (a + b))] [] (by kernel_rfl) rfl rfl (Ge.refl _ _) ?_
        -- end 4 (TFF)
        refine ⟨?_, rfl⟩
        rw [sadd_in ⟨by omega, by omega⟩]
        rfl
  · -- slot 7: decide (b > 0) is False
    replace h1 : ¬ (b > 0) := of_decide_eq_false h1
    refine X.run 16 [0, 1, 4, 15] [] (.ops (aA B84 [1, 1, 0, 0]) (oA B84 [1, 1, 0, 0] 3 :: lA B84 [1, 1, 0, 0] 4)) [.seq (cA B84 [1, 1, 0, 1]), .seq (cA B84 [1, 1, 1])] ⟨24, [(0, .v (.int .i64 a)), (1, .v (.int .i64 b)), (4, .v (.int .i64 0)), (15, .v (.bool (decide (b < 0))))], []⟩ (by kernel_rfl) ?_
    refine X.split 15 rfl (fun h5 => ?_) (fun h5 => ?_)
    · -- slot 15: decide (b < 0) is True
      replace h5 : b < 0 := of_decide_eq_true h5
      refine X.run 3 [0, 1, 4, 15, 16, 18] [] (.ops (aA B84 [1, 1, 0, 0]) (oA B84 [1, 1, 0, 0] 6 :: lA B84 [1, 1, 0, 0] 7)) [.seq (cA B84 [1, 1, 0, 1]), .seq (cA B84 [1, 1, 1])] ⟨24, [(0, .v (.int .i64 a)), (1, .v (.int .i64 b)), (4, .v (.int .i64 0)), (15, .v (.bool true)), (16, .v (.int .i64 a)), (18, .v (.int .i64 (IntKind.i64.wrap ((-9223372036854775808) - b))))], []⟩ (by kernel_rfl) ?_
      refine X.known 18 (y := .v (.int .i64 ((-9223372036854775808) - b))) rfl (congrArg (fun z_ => AV.v (.int .i64 z_)) (wi64 (by omega) (by omega))) ?_
      refine X.run 4 [0, 1, 4, 20] [] (.code (cA B84 [1, 1, 0, 1])) [.seq (cA B84 [1, 1, 1])] ⟨24, [(0, .v (.int .i64 a)), (1, .v (.int .i64 b)), (4, .v (.int .i64 0)), (20, .v (.bool (decide (a < (-9223372036854775808) - b))))], []⟩ (by kernel_rfl) ?_
      refine X.split 20 rfl (fun h6 => ?_) (fun h6 => ?_)
      · -- slot 20: decide (a < (-9223372036854775808) - b) is True
        replace h6 : a < (-9223372036854775808) - b := of_decide_eq_true h6
        refine X.run 8 [4] [] (.ex .ret) [] ⟨24, [(4, .v (.int .i64 (-9223372036854775808)))], []⟩ (by kernel_rfl) ?_
        refine doneG (.inl rfl) [.int .i64 (-9223372036854775808)] [] (by kernel_rfl) rfl rfl (Ge.refl _ _) ?_
        -- end 5 (FTT)
        refine ⟨?_, rfl⟩
        show Value.int .i64 _ = _
        congr 1
        unfold sadd
        omega
      · -- slot 20: decide (a < (-9223372036854775808) - b) is False
        replace h6 : ¬ (a < (-9223372036854775808) - b) := of_decide_eq_false h6
        refine X.run 12 [4] [] (.ex .ret) [] ⟨24, [(4, .v (.int .i64 (IntKind.i64.wrap (a + b))))], []⟩ (by kernel_rfl) ?_
        refine doneG (.inl rfl) [.int .i64 (IntKind.i64.wrap (a + b))] [] (by kernel_rfl) rfl rfl (Ge.refl _ _) ?_
        -- end 6 (FTF)
        refine ⟨?_, rfl⟩
        rw [sadd_in ⟨by omega, by omega⟩]
        rfl
    · -- slot 15: decide (b < 0) is False
      replace h5 : ¬ (b < 0) := of_decide_eq_false h5
      refine X.run 19 [4] [] (.ex .ret) [] ⟨24, [(4, .v (.int .i64 (IntKind.i64.wrap (a + b))))], []⟩ (by kernel_rfl) ?_
      refine doneG (.inl rfl) [.int .i64 (IntKind.i64.wrap (a + b))] [] (by kernel_rfl) rfl rfl (Ge.refl _ _) ?_
      -- end 7 (FF)
      refine ⟨?_, rfl⟩
      rw [sadd_in ⟨by omega, by omega⟩]
      rfl

set_option maxHeartbeats 1000000 in
theorem hTakeG_ok (c0 c1 c2 c3 cd n : Int) (h0 : r64 c0) (h1 : r64 c1) (h2 : r64 c2) (h3 : r64 c3) (hn : r64 n) (G : Mem) : CallsG Try.prog 52 [.agg #[.int .i64 c0, .int .i64 c1, .int .i64 c2, .int .i64 c3], .int .i64 cd, .int .i64 n] G (fun _ v rows => (∃ m z x y, v = .agg #[.int .i64 m, .int .i64 z, .int .i64 x, .int .i64 y] ∧ m = (if cd = 3 then sadd c0 1 else c0) ∧ z = (if cd = 3 then sadd c1 (max 0 (min n 65536)) else c1) ∧ x = (if cd = 2 then sadd c2 (max 0 (min n 65536)) else c2) ∧ y = (if cd = 1 then sadd c3 (max 0 (min n 65536)) else c3)) ∧ rows = []) := by
  refine CallsG.enter Try.func52 rfl rfl ?_
  intro w
  refine X.run 14 [1, 2, 3, 6, 7, 8] [3, 6] (.ops (aA B52 [1, 1, 0]) (oA B52 [1, 1, 0] 1 :: lA B52 [1, 1, 0] 2)) [.seq (cA B52 [1, 1, 1])] ⟨33, [(1, .v (.int .i64 cd)), (2, .v (.int .i64 n)), (3, .own 3 0), (6, .own 6 0), (7, .fn 82 []), (8, .v (.int .i64 n))], [(3, ⟨48, [.v (.int .i64 c0), .v (.int .i64 c1), .v (.int .i64 c2), .v (.int .i64 c3)]⟩), (6, ⟨48, [.v (.int .i64 0), .v (.int .i64 0), .v (.int .i64 0), .v (.int .i64 0)]⟩)]⟩ (by kernel_rfl) ?_
  refine X.inline (f := 66) (l := [.v (.int .i64 n), .v (.int .i64 0), .v (.int .i64 65536)]) (fn := Try.f66) (c := B66) (by kernel_rfl) (by kernel_rfl) Try.func66 (by kernel_rfl) ?_
  intro Q1 M1 hM1 hQ1 fin1
  refine X.run 11 [6, 7, 10] [1003, 1006] (.ops (aA B66 [1, 0]) (oA B66 [1, 0] 4 :: lA B66 [1, 0] 5)) [.seq (cA B66 [1, 1])] ⟨12, [(6, .v (.int .i64 0)), (7, .v (.int .i64 0)), (10, .v (.int .i64 (imin n 65536)))], [(1003, ⟨48, [.v (.int .i64 c0), .v (.int .i64 c1), .v (.int .i64 c2), .v (.int .i64 c3)]⟩), (1006, ⟨48, [.v (.int .i64 0), .v (.int .i64 0), .v (.int .i64 0), .v (.int .i64 0)]⟩)]⟩ (by kernel_rfl) ?_
  refine X.known 10 (y := .v (.int .i64 (min n 65536))) rfl (congrArg (fun z_ => AV.v (.int .i64 z_)) (by simp only [imin_eq, imax_eq])) ?_
  refine X.run 1 [6, 11] [1003, 1006] (.ops (aA B66 [1, 0]) (oA B66 [1, 0] 5 :: lA B66 [1, 0] 6)) [.seq (cA B66 [1, 1])] ⟨12, [(6, .v (.int .i64 0)), (11, .v (.int .i64 (imax 0 (min n 65536))))], [(1003, ⟨48, [.v (.int .i64 c0), .v (.int .i64 c1), .v (.int .i64 c2), .v (.int .i64 c3)]⟩), (1006, ⟨48, [.v (.int .i64 0), .v (.int .i64 0), .v (.int .i64 0), .v (.int .i64 0)]⟩)]⟩ (by kernel_rfl) ?_
  refine X.known 11 (y := .v (.int .i64 (max 0 (min n 65536)))) rfl (congrArg (fun z_ => AV.v (.int .i64 z_)) (by simp only [imin_eq, imax_eq])) ?_
  refine X.run 4 [6] [1003, 1006] (.ex .ret) [] ⟨12, [(6, .v (.int .i64 (max 0 (min n 65536))))], [(1003, ⟨48, [.v (.int .i64 c0), .v (.int .i64 c1), .v (.int .i64 c2), .v (.int .i64 c3)]⟩), (1006, ⟨48, [.v (.int .i64 0), .v (.int .i64 0), .v (.int .i64 0), .v (.int .i64 0)]⟩)]⟩ (by kernel_rfl) ?_
  refine fin1 _ _ _ _ [.int .i64 (max 0 (min n 65536))] [(3, ⟨48, [.v (.int .i64 c0), .v (.int .i64 c1), .v (.int .i64 c2), .v (.int .i64 c3)]⟩), (6, ⟨48, [.v (.int .i64 0), .v (.int .i64 0), .v (.int .i64 0), .v (.int .i64 0)]⟩)] (.inl rfl) (by kernel_rfl) (by kernel_rfl) ?_
  refine X.run 16 [2, 3, 6, 7, 10, 11] [3, 6] (.code (cA B52 [1, 1, 1, 0, 1, 0, 1])) [.blk 0, .seq (cA B52 [1, 1, 1, 1])] ⟨33, [(2, .v (.int .i64 (max 0 (min n 65536)))), (3, .own 3 0), (6, .own 6 0), (7, .fn 82 []), (10, .v (.int .i64 cd)), (11, .v (.bool (cd == 3)))], [(3, ⟨48, [.v (.int .i64 c0), .v (.int .i64 c1), .v (.int .i64 c2), .v (.int .i64 c3)]⟩), (6, ⟨48, [.v (.int .i64 0), .v (.int .i64 0), .v (.int .i64 0), .v (.int .i64 0)]⟩)]⟩ (by kernel_rfl) ?_
  refine X.split 11 rfl (fun h2 => ?_) (fun h2 => ?_)
  · -- slot 11: cd == 3 is True
    replace h2 : cd = 3 := by simpa using h2
    refine X.run 5 [2, 3, 6, 7, 13, 14] [3, 6] (.ops (aA B52 [1, 1, 1, 0, 1, 0, 1, 0, 0]) (oA B52 [1, 1, 1, 0, 1, 0, 1, 0, 0] 2 :: lA B52 [1, 1, 1, 0, 1, 0, 1, 0, 0] 3)) [.seq (cA B52 [1, 1, 1, 0, 1, 0, 1, 0, 1]), .blk 0, .seq (cA B52 [1, 1, 1, 1])] ⟨33, [(2, .v (.int .i64 (max 0 (min n 65536)))), (3, .own 3 0), (6, .own 6 0), (7, .fn 82 []), (13, .fn 82 []), (14, .own 3 0)], [(3, ⟨48, [.v (.int .i64 c0), .v (.int .i64 c1), .v (.int .i64 c2), .v (.int .i64 c3)]⟩), (6, ⟨48, [.v (.int .i64 0), .v (.int .i64 0), .v (.int .i64 0), .v (.int .i64 0)]⟩)]⟩ (by kernel_rfl) ?_
    refine X.inline (f := 82) (l := [.own 3 0, .v (.int .i64 1)]) (fn := Try.f82) (c := B82) (by kernel_rfl) (by kernel_rfl) Try.func82 (by kernel_rfl) ?_
    intro Q3 M3 hM3 hQ3 fin3
    refine X.run 6 [4, 7, 8] [1003, 1006] (.ops (aA B82 []) (oA B82 [] 5 :: lA B82 [] 6)) [] ⟨11, [(4, .own 1003 0), (7, .v (.int .i64 c0)), (8, .v (.int .i64 1))], [(1003, ⟨48, [.v (.int .i64 c0), .v (.int .i64 c1), .v (.int .i64 c2), .v (.int .i64 c3)]⟩), (1006, ⟨48, [.v (.int .i64 0), .v (.int .i64 0), .v (.int .i64 0), .v (.int .i64 0)]⟩)]⟩ (by kernel_rfl) ?_
    refine X.callG (f := 83) (l := [.v (.int .i64 c0), .v (.int .i64 1)]) [.int .i64 c0, .int .i64 1] 0 (by kernel_rfl) (by kernel_rfl) (by kernel_rfl) (SatAddG_ok c0 1 (by assumption) (by unfold r64; omega) _) ?_
    rintro v4 G4 rows4 hG4 ⟨rfl, rfl⟩
    refine X.run 3 [] [1003, 1006] (.ex .normal) [] ⟨11, [], [(1003, ⟨48, [.v (.int .i64 (sadd c0 1)), .v (.int .i64 c1), .v (.int .i64 c2), .v (.int .i64 c3)]⟩), (1006, ⟨48, [.v (.int .i64 0), .v (.int .i64 0), .v (.int .i64 0), .v (.int .i64 0)]⟩)]⟩ (by kernel_rfl) ?_
    refine fin3 _ _ _ _ [] [(3, ⟨48, [.v (.int .i64 (sadd c0 1)), .v (.int .i64 c1), .v (.int .i64 c2), .v (.int .i64 c3)]⟩), (6, ⟨48, [.v (.int .i64 0), .v (.int .i64 0), .v (.int .i64 0), .v (.int .i64 0)]⟩)] (.inr rfl) (by kernel_rfl) (by kernel_rfl) ?_
    refine X.run 6 [3, 6, 16, 17, 18] [3, 6] (.ops (aA B52 [1, 1, 1, 0, 1, 0, 1, 0, 1]) (oA B52 [1, 1, 1, 0, 1, 0, 1, 0, 1] 3 :: lA B52 [1, 1, 1, 0, 1, 0, 1, 0, 1] 4)) [.blk 0, .seq (cA B52 [1, 1, 1, 1])] ⟨33, [(3, .own 3 0), (6, .own 6 0), (16, .fn 82 []), (17, .own 3 1), (18, .v (.int .i64 (max 0 (min n 65536))))], [(3, ⟨48, [.v (.int .i64 (sadd c0 1)), .v (.int .i64 c1), .v (.int .i64 c2), .v (.int .i64 c3)]⟩), (6, ⟨48, [.v (.int .i64 0), .v (.int .i64 0), .v (.int .i64 0), .v (.int .i64 0)]⟩)]⟩ (by kernel_rfl) ?_
    refine X.inline (f := 82) (l := [.own 3 1, .v (.int .i64 (max 0 (min n 65536)))]) (fn := Try.f82) (c := B82) (by kernel_rfl) (by kernel_rfl) Try.func82 (by kernel_rfl) ?_
    intro Q5 M5 hM5 hQ5 fin5
    refine X.run 6 [4, 7, 8] [1003, 1006] (.ops (aA B82 []) (oA B82 [] 5 :: lA B82 [] 6)) [] ⟨11, [(4, .own 1003 1), (7, .v (.int .i64 c1)), (8, .v (.int .i64 (max 0 (min n 65536))))], [(1003, ⟨48, [.v (.int .i64 (sadd c0 1)), .v (.int .i64 c1), .v (.int .i64 c2), .v (.int .i64 c3)]⟩), (1006, ⟨48, [.v (.int .i64 0), .v (.int .i64 0), .v (.int .i64 0), .v (.int .i64 0)]⟩)]⟩ (by kernel_rfl) ?_
    refine X.callG (f := 83) (l := [.v (.int .i64 c1), .v (.int .i64 (max 0 (min n 65536)))]) [.int .i64 c1, .int .i64 (max 0 (min n 65536))] 0 (by kernel_rfl) (by kernel_rfl) (by kernel_rfl) (SatAddG_ok c1 (max 0 (min n 65536)) (by assumption) (by unfold r64; omega) _) ?_
    rintro v6 G6 rows6 hG6 ⟨rfl, rfl⟩
    refine X.run 3 [] [1003, 1006] (.ex .normal) [] ⟨11, [], [(1003, ⟨48, [.v (.int .i64 (sadd c0 1)), .v (.int .i64 (sadd c1 (max 0 (min n 65536)))), .v (.int .i64 c2), .v (.int .i64 c3)]⟩), (1006, ⟨48, [.v (.int .i64 0), .v (.int .i64 0), .v (.int .i64 0), .v (.int .i64 0)]⟩)]⟩ (by kernel_rfl) ?_
    refine fin5 _ _ _ _ [] [(3, ⟨48, [.v (.int .i64 (sadd c0 1)), .v (.int .i64 (sadd c1 (max 0 (min n 65536)))), .v (.int .i64 c2), .v (.int .i64 c3)]⟩), (6, ⟨48, [.v (.int .i64 0), .v (.int .i64 0), .v (.int .i64 0), .v (.int .i64 0)]⟩)] (.inr rfl) (by kernel_rfl) (by kernel_rfl) ?_
    refine X.run 10 [6] [6] (.ex .ret) [] ⟨33, [(6, .own 6 0)], [(6, ⟨48, [.v (.int .i64 (sadd c0 1)), .v (.int .i64 (sadd c1 (max 0 (min n 65536)))), .v (.int .i64 c2), .v (.int .i64 c3)]⟩)]⟩ (by kernel_rfl) ?_
    refine doneG (.inl rfl) [.agg #[.int .i64 (sadd c0 1), .int .i64 (sadd c1 (max 0 (min n 65536))), .int .i64 c2, .int .i64 c3]] [] (by kernel_rfl) rfl rfl ((hG4.trans hG6)) ?_
    -- end 4 (T)
    refine ⟨⟨_, _, _, _, rfl, ?_, ?_, ?_, ?_⟩, rfl⟩ <;> (first | (rw [if_pos (by omega)] <;> first | rfl | (exfalso; omega)) | (rw [if_neg (by omega)] <;> first | rfl | (exfalso; omega)))
  · -- slot 11: cd == 3 is False
    replace h2 : cd ≠ 3 := by simpa using h2
    refine X.run 7 [2, 3, 6, 7, 10, 20] [3, 6] (.code (cA B52 [1, 1, 1, 0, 1, 0, 1, 1, 1])) [.blk 0, .seq (cA B52 [1, 1, 1, 1])] ⟨33, [(2, .v (.int .i64 (max 0 (min n 65536)))), (3, .own 3 0), (6, .own 6 0), (7, .fn 82 []), (10, .v (.int .i64 cd)), (20, .v (.bool (cd == 2)))], [(3, ⟨48, [.v (.int .i64 c0), .v (.int .i64 c1), .v (.int .i64 c2), .v (.int .i64 c3)]⟩), (6, ⟨48, [.v (.int .i64 0), .v (.int .i64 0), .v (.int .i64 0), .v (.int .i64 0)]⟩)]⟩ (by kernel_rfl) ?_
    refine X.split 20 rfl (fun h7 => ?_) (fun h7 => ?_)
    · -- slot 20: cd == 2 is True
      replace h7 : cd = 2 := by simpa using h7
      refine X.run 5 [3, 6, 22, 23, 24] [3, 6] (.ops (aA B52 [1, 1, 1, 0, 1, 0, 1, 1, 1, 0]) (oA B52 [1, 1, 1, 0, 1, 0, 1, 1, 1, 0] 3 :: lA B52 [1, 1, 1, 0, 1, 0, 1, 1, 1, 0] 4)) [.blk 0, .seq (cA B52 [1, 1, 1, 1])] ⟨33, [(3, .own 3 0), (6, .own 6 0), (22, .fn 82 []), (23, .own 3 2), (24, .v (.int .i64 (max 0 (min n 65536))))], [(3, ⟨48, [.v (.int .i64 c0), .v (.int .i64 c1), .v (.int .i64 c2), .v (.int .i64 c3)]⟩), (6, ⟨48, [.v (.int .i64 0), .v (.int .i64 0), .v (.int .i64 0), .v (.int .i64 0)]⟩)]⟩ (by kernel_rfl) ?_
      refine X.inline (f := 82) (l := [.own 3 2, .v (.int .i64 (max 0 (min n 65536)))]) (fn := Try.f82) (c := B82) (by kernel_rfl) (by kernel_rfl) Try.func82 (by kernel_rfl) ?_
      intro Q8 M8 hM8 hQ8 fin8
      refine X.run 6 [4, 7, 8] [1003, 1006] (.ops (aA B82 []) (oA B82 [] 5 :: lA B82 [] 6)) [] ⟨11, [(4, .own 1003 2), (7, .v (.int .i64 c2)), (8, .v (.int .i64 (max 0 (min n 65536))))], [(1003, ⟨48, [.v (.int .i64 c0), .v (.int .i64 c1), .v (.int .i64 c2), .v (.int .i64 c3)]⟩), (1006, ⟨48, [.v (.int .i64 0), .v (.int .i64 0), .v (.int .i64 0), .v (.int .i64 0)]⟩)]⟩ (by kernel_rfl) ?_
      refine X.callG (f := 83) (l := [.v (.int .i64 c2), .v (.int .i64 (max 0 (min n 65536)))]) [.int .i64 c2, .int .i64 (max 0 (min n 65536))] 0 (by kernel_rfl) (by kernel_rfl) (by kernel_rfl) (SatAddG_ok c2 (max 0 (min n 65536)) (by assumption) (by unfold r64; omega) _) ?_
      rintro v9 G9 rows9 hG9 ⟨rfl, rfl⟩
      refine X.run 3 [] [1003, 1006] (.ex .normal) [] ⟨11, [], [(1003, ⟨48, [.v (.int .i64 c0), .v (.int .i64 c1), .v (.int .i64 (sadd c2 (max 0 (min n 65536)))), .v (.int .i64 c3)]⟩), (1006, ⟨48, [.v (.int .i64 0), .v (.int .i64 0), .v (.int .i64 0), .v (.int .i64 0)]⟩)]⟩ (by kernel_rfl) ?_
      refine fin8 _ _ _ _ [] [(3, ⟨48, [.v (.int .i64 c0), .v (.int .i64 c1), .v (.int .i64 (sadd c2 (max 0 (min n 65536)))), .v (.int .i64 c3)]⟩), (6, ⟨48, [.v (.int .i64 0), .v (.int .i64 0), .v (.int .i64 0), .v (.int .i64 0)]⟩)] (.inr rfl) (by kernel_rfl) (by kernel_rfl) ?_
      refine X.run 10 [6] [6] (.ex .ret) [] ⟨33, [(6, .own 6 0)], [(6, ⟨48, [.v (.int .i64 c0), .v (.int .i64 c1), .v (.int .i64 (sadd c2 (max 0 (min n 65536)))), .v (.int .i64 c3)]⟩)]⟩ (by kernel_rfl) ?_
      refine doneG (.inl rfl) [.agg #[.int .i64 c0, .int .i64 c1, .int .i64 (sadd c2 (max 0 (min n 65536))), .int .i64 c3]] [] (by kernel_rfl) rfl rfl (hG9) ?_
      -- end 6 (FT)
      refine ⟨⟨_, _, _, _, rfl, ?_, ?_, ?_, ?_⟩, rfl⟩ <;> (first | (rw [if_pos (by omega)] <;> first | rfl | (exfalso; omega)) | (rw [if_neg (by omega)] <;> first | rfl | (exfalso; omega)))
    · -- slot 20: cd == 2 is False
      replace h7 : cd ≠ 2 := by simpa using h7
      refine X.run 7 [2, 3, 6, 7, 26] [3, 6] (.code (cA B52 [1, 1, 1, 0, 1, 0, 1, 1, 1, 1, 1])) [.blk 0, .seq (cA B52 [1, 1, 1, 1])] ⟨33, [(2, .v (.int .i64 (max 0 (min n 65536)))), (3, .own 3 0), (6, .own 6 0), (7, .fn 82 []), (26, .v (.bool (cd == 1)))], [(3, ⟨48, [.v (.int .i64 c0), .v (.int .i64 c1), .v (.int .i64 c2), .v (.int .i64 c3)]⟩), (6, ⟨48, [.v (.int .i64 0), .v (.int .i64 0), .v (.int .i64 0), .v (.int .i64 0)]⟩)]⟩ (by kernel_rfl) ?_
      refine X.split 26 rfl (fun h10 => ?_) (fun h10 => ?_)
      · -- slot 26: cd == 1 is True
        replace h10 : cd = 1 := by simpa using h10
        refine X.run 5 [3, 6, 28, 29, 30] [3, 6] (.ops (aA B52 [1, 1, 1, 0, 1, 0, 1, 1, 1, 1, 1, 0]) (oA B52 [1, 1, 1, 0, 1, 0, 1, 1, 1, 1, 1, 0] 3 :: lA B52 [1, 1, 1, 0, 1, 0, 1, 1, 1, 1, 1, 0] 4)) [.blk 0, .seq (cA B52 [1, 1, 1, 1])] ⟨33, [(3, .own 3 0), (6, .own 6 0), (28, .fn 82 []), (29, .own 3 3), (30, .v (.int .i64 (max 0 (min n 65536))))], [(3, ⟨48, [.v (.int .i64 c0), .v (.int .i64 c1), .v (.int .i64 c2), .v (.int .i64 c3)]⟩), (6, ⟨48, [.v (.int .i64 0), .v (.int .i64 0), .v (.int .i64 0), .v (.int .i64 0)]⟩)]⟩ (by kernel_rfl) ?_
        refine X.inline (f := 82) (l := [.own 3 3, .v (.int .i64 (max 0 (min n 65536)))]) (fn := Try.f82) (c := B82) (by kernel_rfl) (by kernel_rfl) Try.func82 (by kernel_rfl) ?_
        intro Q11 M11 hM11 hQ11 fin11
        refine X.run 6 [4, 7, 8] [1003, 1006] (.ops (aA B82 []) (oA B82 [] 5 :: lA B82 [] 6)) [] ⟨11, [(4, .own 1003 3), (7, .v (.int .i64 c3)), (8, .v (.int .i64 (max 0 (min n 65536))))], [(1003, ⟨48, [.v (.int .i64 c0), .v (.int .i64 c1), .v (.int .i64 c2), .v (.int .i64 c3)]⟩), (1006, ⟨48, [.v (.int .i64 0), .v (.int .i64 0), .v (.int .i64 0), .v (.int .i64 0)]⟩)]⟩ (by kernel_rfl) ?_
        refine X.callG (f := 83) (l := [.v (.int .i64 c3), .v (.int .i64 (max 0 (min n 65536)))]) [.int .i64 c3, .int .i64 (max 0 (min n 65536))] 0 (by kernel_rfl) (by kernel_rfl) (by kernel_rfl) (SatAddG_ok c3 (max 0 (min n 65536)) (by assumption) (by unfold r64; omega) _) ?_
        rintro v12 G12 rows12 hG12 ⟨rfl, rfl⟩
        refine X.run 3 [] [1003, 1006] (.ex .normal) [] ⟨11, [], [(1003, ⟨48, [.v (.int .i64 c0), .v (.int .i64 c1), .v (.int .i64 c2), .v (.int .i64 (sadd c3 (max 0 (min n 65536))))]⟩), (1006, ⟨48, [.v (.int .i64 0), .v (.int .i64 0), .v (.int .i64 0), .v (.int .i64 0)]⟩)]⟩ (by kernel_rfl) ?_
        refine fin11 _ _ _ _ [] [(3, ⟨48, [.v (.int .i64 c0), .v (.int .i64 c1), .v (.int .i64 c2), .v (.int .i64 (sadd c3 (max 0 (min n 65536))))]⟩), (6, ⟨48, [.v (.int .i64 0), .v (.int .i64 0), .v (.int .i64 0), .v (.int .i64 0)]⟩)] (.inr rfl) (by kernel_rfl) (by kernel_rfl) ?_
        refine X.run 10 [6] [6] (.ex .ret) [] ⟨33, [(6, .own 6 0)], [(6, ⟨48, [.v (.int .i64 c0), .v (.int .i64 c1), .v (.int .i64 c2), .v (.int .i64 (sadd c3 (max 0 (min n 65536))))]⟩)]⟩ (by kernel_rfl) ?_
        refine doneG (.inl rfl) [.agg #[.int .i64 c0, .int .i64 c1, .int .i64 c2, .int .i64 (sadd c3 (max 0 (min n 65536)))]] [] (by kernel_rfl) rfl rfl (hG12) ?_
        -- end 8 (FFT)
        refine ⟨⟨_, _, _, _, rfl, ?_, ?_, ?_, ?_⟩, rfl⟩ <;> (first | (rw [if_pos (by omega)] <;> first | rfl | (exfalso; omega)) | (rw [if_neg (by omega)] <;> first | rfl | (exfalso; omega)))
      · -- slot 26: cd == 1 is False
        replace h10 : cd ≠ 1 := by simpa using h10
        refine X.run 11 [6] [6] (.ex .ret) [] ⟨33, [(6, .own 6 0)], [(6, ⟨48, [.v (.int .i64 c0), .v (.int .i64 c1), .v (.int .i64 c2), .v (.int .i64 c3)]⟩)]⟩ (by kernel_rfl) ?_
        refine doneG (.inl rfl) [.agg #[.int .i64 c0, .int .i64 c1, .int .i64 c2, .int .i64 c3]] [] (by kernel_rfl) rfl rfl (Ge.refl _ _) ?_
        -- end 9 (FFF)
        refine ⟨⟨_, _, _, _, rfl, ?_, ?_, ?_, ?_⟩, rfl⟩ <;> (first | (rw [if_pos (by omega)] <;> first | rfl | (exfalso; omega)) | (rw [if_neg (by omega)] <;> first | rfl | (exfalso; omega)))

/-- leat/leatref15.Take -/
noncomputable def B56 : Code := bodyOf Try.f56
set_option maxHeartbeats 1000000 in
theorem rTakeG_ok (c0 c1 c2 c3 cd n : Int) (h0 : r64 c0) (h1 : r64 c1) (h2 : r64 c2) (h3 : r64 c3) (hn : r64 n) (G : Mem) : CallsG Try.prog 56 [.agg #[.int .i64 c0, .int .i64 c1, .int .i64 c2, .int .i64 c3], .int .i64 cd, .int .i64 n] G (fun _ v rows => (∃ m z x y, v = .agg #[.int .i64 m, .int .i64 z, .int .i64 x, .int .i64 y] ∧ m = (if cd = 3 then sadd c0 1 else c0) ∧ z = (if cd = 3 then sadd c1 (max 0 (min n 65536)) else c1) ∧ x = (if cd = 2 then sadd c2 (max 0 (min n 65536)) else c2) ∧ y = (if cd = 1 then sadd c3 (max 0 (min n 65536)) else c3)) ∧ rows = []) := by
  refine CallsG.enter Try.func56 rfl rfl ?_
  intro w
  refine X.run 10 [1, 3, 6, 9] [3, 6] (.ops (aA B56 [1, 0]) (oA B56 [1, 0] 2 :: lA B56 [1, 0] 3)) [.seq (cA B56 [1, 1])] ⟨37, [(1, .v (.int .i64 cd)), (3, .own 3 0), (6, .own 6 0), (9, .v (.int .i64 (imax n 0)))], [(3, ⟨48, [.v (.int .i64 c0), .v (.int .i64 c1), .v (.int .i64 c2), .v (.int .i64 c3)]⟩), (6, ⟨48, [.v (.int .i64 0), .v (.int .i64 0), .v (.int .i64 0), .v (.int .i64 0)]⟩)]⟩ (by kernel_rfl) ?_
  refine X.known 9 (y := .v (.int .i64 (max n 0))) rfl (congrArg (fun z_ => AV.v (.int .i64 z_)) (by simp only [imin_eq, imax_eq])) ?_
  refine X.run 1 [1, 3, 6, 10] [3, 6] (.ops (aA B56 [1, 0]) (oA B56 [1, 0] 3 :: lA B56 [1, 0] 4)) [.seq (cA B56 [1, 1])] ⟨37, [(1, .v (.int .i64 cd)), (3, .own 3 0), (6, .own 6 0), (10, .v (.int .i64 (imin (max n 0) 65536)))], [(3, ⟨48, [.v (.int .i64 c0), .v (.int .i64 c1), .v (.int .i64 c2), .v (.int .i64 c3)]⟩), (6, ⟨48, [.v (.int .i64 0), .v (.int .i64 0), .v (.int .i64 0), .v (.int .i64 0)]⟩)]⟩ (by kernel_rfl) ?_
  refine X.known 10 (y := .v (.int .i64 (max 0 (min n 65536)))) rfl (congrArg (fun z_ => AV.v (.int .i64 z_)) (by rw [imin_eq]; omega)) ?_
  refine X.run 10 [1, 3, 6, 7, 12] [3, 6] (.code (cA B56 [1, 1, 0, 1])) [.seq (cA B56 [1, 1, 1])] ⟨37, [(1, .v (.int .i64 cd)), (3, .own 3 0), (6, .own 6 0), (7, .v (.int .i64 (max 0 (min n 65536)))), (12, .v (.bool (cd == 3)))], [(3, ⟨48, [.v (.int .i64 c0), .v (.int .i64 c1), .v (.int .i64 c2), .v (.int .i64 c3)]⟩), (6, ⟨48, [.v (.int .i64 0), .v (.int .i64 0), .v (.int .i64 0), .v (.int .i64 0)]⟩)]⟩ (by kernel_rfl) ?_
  refine X.split 12 rfl (fun h1 => ?_) (fun h1 => ?_)
  · -- slot 12: cd == 3 is True
    replace h1 : cd = 3 := by simpa using h1
    refine X.run 5 [1, 3, 6, 7, 14] [3, 6] (.ops (aA B56 [1, 1, 0, 1, 0, 0]) (oA B56 [1, 1, 0, 1, 0, 0] 2 :: lA B56 [1, 1, 0, 1, 0, 0] 3)) [.seq (cA B56 [1, 1, 0, 1, 0, 1]), .seq (cA B56 [1, 1, 1])] ⟨37, [(1, .v (.int .i64 cd)), (3, .own 3 0), (6, .own 6 0), (7, .v (.int .i64 (max 0 (min n 65536)))), (14, .v (.int .i64 c0))], [(3, ⟨48, [.v (.int .i64 c0), .v (.int .i64 c1), .v (.int .i64 c2), .v (.int .i64 c3)]⟩), (6, ⟨48, [.v (.int .i64 0), .v (.int .i64 0), .v (.int .i64 0), .v (.int .i64 0)]⟩)]⟩ (by kernel_rfl) ?_
    refine X.callG (f := 84) (l := [.v (.int .i64 c0), .v (.int .i64 1)]) [.int .i64 c0, .int .i64 1] 0 (by kernel_rfl) (by kernel_rfl) (by kernel_rfl) (rAddG_ok c0 1 (by assumption) (by unfold r64; omega) _) ?_
    rintro v2 G2 rows2 hG2 ⟨rfl, rfl⟩
    refine X.run 8 [1, 3, 6, 7, 18, 19] [3, 6] (.ops (aA B56 [1, 1, 0, 1, 0, 1]) (oA B56 [1, 1, 0, 1, 0, 1] 3 :: lA B56 [1, 1, 0, 1, 0, 1] 4)) [.seq (cA B56 [1, 1, 1])] ⟨37, [(1, .v (.int .i64 cd)), (3, .own 3 0), (6, .own 6 0), (7, .v (.int .i64 (max 0 (min n 65536)))), (18, .v (.int .i64 c1)), (19, .v (.int .i64 (max 0 (min n 65536))))], [(3, ⟨48, [.v (.int .i64 (sadd c0 1)), .v (.int .i64 c1), .v (.int .i64 c2), .v (.int .i64 c3)]⟩), (6, ⟨48, [.v (.int .i64 0), .v (.int .i64 0), .v (.int .i64 0), .v (.int .i64 0)]⟩)]⟩ (by kernel_rfl) ?_
    refine X.callG (f := 84) (l := [.v (.int .i64 c1), .v (.int .i64 (max 0 (min n 65536)))]) [.int .i64 c1, .int .i64 (max 0 (min n 65536))] 0 (by kernel_rfl) (by kernel_rfl) (by kernel_rfl) (rAddG_ok c1 (max 0 (min n 65536)) (by assumption) (by unfold r64; omega) _) ?_
    rintro v3 G3 rows3 hG3 ⟨rfl, rfl⟩
    refine X.run 11 [1, 3, 6, 7, 23] [3, 6] (.code (cA B56 [1, 1, 1, 0, 1])) [.seq (cA B56 [1, 1, 1, 1])] ⟨37, [(1, .v (.int .i64 cd)), (3, .own 3 0), (6, .own 6 0), (7, .v (.int .i64 (max 0 (min n 65536)))), (23, .v (.bool (cd == 2)))], [(3, ⟨48, [.v (.int .i64 (sadd c0 1)), .v (.int .i64 (sadd c1 (max 0 (min n 65536)))), .v (.int .i64 c2), .v (.int .i64 c3)]⟩), (6, ⟨48, [.v (.int .i64 0), .v (.int .i64 0), .v (.int .i64 0), .v (.int .i64 0)]⟩)]⟩ (by kernel_rfl) ?_
    refine X.split 23 rfl (fun h4 => ?_) (fun h4 => ?_)
    · -- slot 23: cd == 2 is True
      replace h4 : cd = 2 := by simpa using h4
      refine X.run 5 [1, 3, 6, 7, 25, 26] [3, 6] (.ops (aA B56 [1, 1, 1, 0, 1, 0]) (oA B56 [1, 1, 1, 0, 1, 0] 3 :: lA B56 [1, 1, 1, 0, 1, 0] 4)) [.seq (cA B56 [1, 1, 1, 1])] ⟨37, [(1, .v (.int .i64 cd)), (3, .own 3 0), (6, .own 6 0), (7, .v (.int .i64 (max 0 (min n 65536)))), (25, .v (.int .i64 c2)), (26, .v (.int .i64 (max 0 (min n 65536))))], [(3, ⟨48, [.v (.int .i64 (sadd c0 1)), .v (.int .i64 (sadd c1 (max 0 (min n 65536)))), .v (.int .i64 c2), .v (.int .i64 c3)]⟩), (6, ⟨48, [.v (.int .i64 0), .v (.int .i64 0), .v (.int .i64 0), .v (.int .i64 0)]⟩)]⟩ (by kernel_rfl) ?_
      refine X.callG (f := 84) (l := [.v (.int .i64 c2), .v (.int .i64 (max 0 (min n 65536)))]) [.int .i64 c2, .int .i64 (max 0 (min n 65536))] 0 (by kernel_rfl) (by kernel_rfl) (by kernel_rfl) (rAddG_ok c2 (max 0 (min n 65536)) (by assumption) (by unfold r64; omega) _) ?_
      rintro v5 G5 rows5 hG5 ⟨rfl, rfl⟩
      refine X.run 11 [3, 6, 7, 30] [3, 6] (.code (cA B56 [1, 1, 1, 1, 0, 1])) [.seq (cA B56 [1, 1, 1, 1, 1])] ⟨37, [(3, .own 3 0), (6, .own 6 0), (7, .v (.int .i64 (max 0 (min n 65536)))), (30, .v (.bool (cd == 1)))], [(3, ⟨48, [.v (.int .i64 (sadd c0 1)), .v (.int .i64 (sadd c1 (max 0 (min n 65536)))), .v (.int .i64 (sadd c2 (max 0 (min n 65536)))), .v (.int .i64 c3)]⟩), (6, ⟨48, [.v (.int .i64 0), .v (.int .i64 0), .v (.int .i64 0), .v (.int .i64 0)]⟩)]⟩ (by kernel_rfl) ?_
      refine X.split 30 rfl (fun h6 => ?_) (fun h6 => ?_)
      · -- slot 30: cd == 1 is True
        replace h6 : cd = 1 := by simpa using h6
        refine X.run 5 [3, 6, 32, 33] [3, 6] (.ops (aA B56 [1, 1, 1, 1, 0, 1, 0]) (oA B56 [1, 1, 1, 1, 0, 1, 0] 3 :: lA B56 [1, 1, 1, 1, 0, 1, 0] 4)) [.seq (cA B56 [1, 1, 1, 1, 1])] ⟨37, [(3, .own 3 0), (6, .own 6 0), (32, .v (.int .i64 c3)), (33, .v (.int .i64 (max 0 (min n 65536))))], [(3, ⟨48, [.v (.int .i64 (sadd c0 1)), .v (.int .i64 (sadd c1 (max 0 (min n 65536)))), .v (.int .i64 (sadd c2 (max 0 (min n 65536)))), .v (.int .i64 c3)]⟩), (6, ⟨48, [.v (.int .i64 0), .v (.int .i64 0), .v (.int .i64 0), .v (.int .i64 0)]⟩)]⟩ (by kernel_rfl) ?_
        refine X.callG (f := 84) (l := [.v (.int .i64 c3), .v (.int .i64 (max 0 (min n 65536)))]) [.int .i64 c3, .int .i64 (max 0 (min n 65536))] 0 (by kernel_rfl) (by kernel_rfl) (by kernel_rfl) (rAddG_ok c3 (max 0 (min n 65536)) (by assumption) (by unfold r64; omega) _) ?_
        rintro v7 G7 rows7 hG7 ⟨rfl, rfl⟩
        refine X.run 11 [6] [6] (.ex .ret) [] ⟨37, [(6, .own 6 0)], [(6, ⟨48, [.v (.int .i64 (sadd c0 1)), .v (.int .i64 (sadd c1 (max 0 (min n 65536)))), .v (.int .i64 (sadd c2 (max 0 (min n 65536)))), .v (.int .i64 (sadd c3 (max 0 (min n 65536))))]⟩)]⟩ (by kernel_rfl) ?_
        refine doneG (.inl rfl) [.agg #[.int .i64 (sadd c0 1), .int .i64 (sadd c1 (max 0 (min n 65536))), .int .i64 (sadd c2 (max 0 (min n 65536))), .int .i64 (sadd c3 (max 0 (min n 65536)))]] [] (by kernel_rfl) rfl rfl ((((hG2.trans hG3).trans hG5).trans hG7)) ?_
        -- end 1 (TTT)
        refine ⟨⟨_, _, _, _, rfl, ?_, ?_, ?_, ?_⟩, rfl⟩ <;> (first | (rw [if_pos (by omega)] <;> first | rfl | (exfalso; omega)) | (rw [if_neg (by omega)] <;> first | rfl | (exfalso; omega)))
      · -- slot 30: cd == 1 is False
        replace h6 : cd ≠ 1 := by simpa using h6
        refine X.run 10 [6] [6] (.ex .ret) [] ⟨37, [(6, .own 6 0)], [(6, ⟨48, [.v (.int .i64 (sadd c0 1)), .v (.int .i64 (sadd c1 (max 0 (min n 65536)))), .v (.int .i64 (sadd c2 (max 0 (min n 65536)))), .v (.int .i64 c3)]⟩)]⟩ (by kernel_rfl) ?_
        refine doneG (.inl rfl) [.agg #[.int .i64 (sadd c0 1), .int .i64 (sadd c1 (max 0 (min n 65536))), .int .i64 (sadd c2 (max 0 (min n 65536))), .int .i64 c3]] [] (by kernel_rfl) rfl rfl (((hG2.trans hG3).trans hG5)) ?_
        -- end 2 (TTF)
        refine ⟨⟨_, _, _, _, rfl, ?_, ?_, ?_, ?_⟩, rfl⟩ <;> (first | (rw [if_pos (by omega)] <;> first | rfl | (exfalso; omega)) | (rw [if_neg (by omega)] <;> first | rfl | (exfalso; omega)))
    · -- slot 23: cd == 2 is False
      replace h4 : cd ≠ 2 := by simpa using h4
      refine X.run 10 [3, 6, 7, 30] [3, 6] (.code (cA B56 [1, 1, 1, 1, 0, 1])) [.seq (cA B56 [1, 1, 1, 1, 1])] ⟨37, [(3, .own 3 0), (6, .own 6 0), (7, .v (.int .i64 (max 0 (min n 65536)))), (30, .v (.bool (cd == 1)))], [(3, ⟨48, [.v (.int .i64 (sadd c0 1)), .v (.int .i64 (sadd c1 (max 0 (min n 65536)))), .v (.int .i64 c2), .v (.int .i64 c3)]⟩), (6, ⟨48, [.v (.int .i64 0), .v (.int .i64 0), .v (.int .i64 0), .v (.int .i64 0)]⟩)]⟩ (by kernel_rfl) ?_
      refine X.split 30 rfl (fun h8 => ?_) (fun h8 => ?_)
      · -- slot 30: cd == 1 is True
        replace h8 : cd = 1 := by simpa using h8
        refine X.run 5 [3, 6, 32, 33] [3, 6] (.ops (aA B56 [1, 1, 1, 1, 0, 1, 0]) (oA B56 [1, 1, 1, 1, 0, 1, 0] 3 :: lA B56 [1, 1, 1, 1, 0, 1, 0] 4)) [.seq (cA B56 [1, 1, 1, 1, 1])] ⟨37, [(3, .own 3 0), (6, .own 6 0), (32, .v (.int .i64 c3)), (33, .v (.int .i64 (max 0 (min n 65536))))], [(3, ⟨48, [.v (.int .i64 (sadd c0 1)), .v (.int .i64 (sadd c1 (max 0 (min n 65536)))), .v (.int .i64 c2), .v (.int .i64 c3)]⟩), (6, ⟨48, [.v (.int .i64 0), .v (.int .i64 0), .v (.int .i64 0), .v (.int .i64 0)]⟩)]⟩ (by kernel_rfl) ?_
        refine X.callG (f := 84) (l := [.v (.int .i64 c3), .v (.int .i64 (max 0 (min n 65536)))]) [.int .i64 c3, .int .i64 (max 0 (min n 65536))] 0 (by kernel_rfl) (by kernel_rfl) (by kernel_rfl) (rAddG_ok c3 (max 0 (min n 65536)) (by assumption) (by unfold r64; omega) _) ?_
        rintro v9 G9 rows9 hG9 ⟨rfl, rfl⟩
        refine X.run 11 [6] [6] (.ex .ret) [] ⟨37, [(6, .own 6 0)], [(6, ⟨48, [.v (.int .i64 (sadd c0 1)), .v (.int .i64 (sadd c1 (max 0 (min n 65536)))), .v (.int .i64 c2), .v (.int .i64 (sadd c3 (max 0 (min n 65536))))]⟩)]⟩ (by kernel_rfl) ?_
        refine doneG (.inl rfl) [.agg #[.int .i64 (sadd c0 1), .int .i64 (sadd c1 (max 0 (min n 65536))), .int .i64 c2, .int .i64 (sadd c3 (max 0 (min n 65536)))]] [] (by kernel_rfl) rfl rfl (((hG2.trans hG3).trans hG9)) ?_
        -- end 3 (TFT)
        refine ⟨⟨_, _, _, _, rfl, ?_, ?_, ?_, ?_⟩, rfl⟩ <;> (first | (rw [if_pos (by omega)] <;> first | rfl | (exfalso; omega)) | (rw [if_neg (by omega)] <;> first | rfl | (exfalso; omega)))
      · -- slot 30: cd == 1 is False
        replace h8 : cd ≠ 1 := by simpa using h8
        refine X.run 10 [6] [6] (.ex .ret) [] ⟨37, [(6, .own 6 0)], [(6, ⟨48, [.v (.int .i64 (sadd c0 1)), .v (.int .i64 (sadd c1 (max 0 (min n 65536)))), .v (.int .i64 c2), .v (.int .i64 c3)]⟩)]⟩ (by kernel_rfl) ?_
        refine doneG (.inl rfl) [.agg #[.int .i64 (sadd c0 1), .int .i64 (sadd c1 (max 0 (min n 65536))), .int .i64 c2, .int .i64 c3]] [] (by kernel_rfl) rfl rfl ((hG2.trans hG3)) ?_
        -- end 4 (TFF)
        refine ⟨⟨_, _, _, _, rfl, ?_, ?_, ?_, ?_⟩, rfl⟩ <;> (first | (rw [if_pos (by omega)] <;> first | rfl | (exfalso; omega)) | (rw [if_neg (by omega)] <;> first | rfl | (exfalso; omega)))
  · -- slot 12: cd == 3 is False
    replace h1 : cd ≠ 3 := by simpa using h1
    refine X.run 10 [1, 3, 6, 7, 23] [3, 6] (.code (cA B56 [1, 1, 1, 0, 1])) [.seq (cA B56 [1, 1, 1, 1])] ⟨37, [(1, .v (.int .i64 cd)), (3, .own 3 0), (6, .own 6 0), (7, .v (.int .i64 (max 0 (min n 65536)))), (23, .v (.bool (cd == 2)))], [(3, ⟨48, [.v (.int .i64 c0), .v (.int .i64 c1), .v (.int .i64 c2), .v (.int .i64 c3)]⟩), (6, ⟨48, [.v (.int .i64 0), .v (.int .i64 0), .v (.int .i64 0), .v (.int .i64 0)]⟩)]⟩ (by kernel_rfl) ?_
    refine X.split 23 rfl (fun h10 => ?_) (fun h10 => ?_)
    · -- slot 23: cd == 2 is True
      replace h10 : cd = 2 := by simpa using h10
      refine X.run 5 [1, 3, 6, 7, 25, 26] [3, 6] (.ops (aA B56 [1, 1, 1, 0, 1, 0]) (oA B56 [1, 1, 1, 0, 1, 0] 3 :: lA B56 [1, 1, 1, 0, 1, 0] 4)) [.seq (cA B56 [1, 1, 1, 1])] ⟨37, [(1, .v (.int .i64 cd)), (3, .own 3 0), (6, .own 6 0), (7, .v (.int .i64 (max 0 (min n 65536)))), (25, .v (.int .i64 c2)), (26, .v (.int .i64 (max 0 (min n 65536))))], [(3, ⟨48, [.v (.int .i64 c0), .v (.int .i64 c1), .v (.int .i64 c2), .v (.int .i64 c3)]⟩), (6, ⟨48, [.v (.int .i64 0), .v (.int .i64 0), .v (.int .i64 0), .v (.int .i64 0)]⟩)]⟩ (by kernel_rfl) ?_
      refine X.callG (f := 84) (l := [.v (.int .i64 c2), .v (.int .i64 (max 0 (min n 65536)))]) [.int .i64 c2, .int .i64 (max 0 (min n 65536))] 0 (by kernel_rfl) (by kernel_rfl) (by kernel_rfl) (rAddG_ok c2 (max 0 (min n 65536)) (by assumption) (by unfold r64; omega) _) ?_
      rintro v11 G11 rows11 hG11 ⟨rfl, rfl⟩
      refine X.run 11 [3, 6, 7, 30] [3, 6] (.code (cA B56 [1, 1, 1, 1, 0, 1])) [.seq (cA B56 [1, 1, 1, 1, 1])] ⟨37, [(3, .own 3 0), (6, .own 6 0), (7, .v (.int .i64 (max 0 (min n 65536)))), (30, .v (.bool (cd == 1)))], [(3, ⟨48, [.v (.int .i64 c0), .v (.int .i64 c1), .v (.int .i64 (sadd c2 (max 0 (min n 65536)))), .v (.int .i64 c3)]⟩), (6, ⟨48, [.v (.int .i64 0), .v (.int .i64 0), .v (.int .i64 0), .v (.int .i64 0)]⟩)]⟩ (by kernel_rfl) ?_
      refine X.split 30 rfl (fun h12 => ?_) (fun h12 => ?_)
      · -- slot 30: cd == 1 is True
        replace h12 : cd = 1 := by simpa using h12
        refine X.run 5 [3, 6, 32, 33] [3, 6] (.ops (aA B56 [1, 1, 1, 1, 0, 1, 0]) (oA B56 [1, 1, 1, 1, 0, 1, 0] 3 :: lA B56 [1, 1, 1, 1, 0, 1, 0] 4)) [.seq (cA B56 [1, 1, 1, 1, 1])] ⟨37, [(3, .own 3 0), (6, .own 6 0), (32, .v (.int .i64 c3)), (33, .v (.int .i64 (max 0 (min n 65536))))], [(3, ⟨48, [.v (.int .i64 c0), .v (.int .i64 c1), .v (.int .i64 (sadd c2 (max 0 (min n 65536)))), .v (.int .i64 c3)]⟩), (6, ⟨48, [.v (.int .i64 0), .v (.int .i64 0), .v (.int .i64 0), .v (.int .i64 0)]⟩)]⟩ (by kernel_rfl) ?_
        refine X.callG (f := 84) (l := [.v (.int .i64 c3), .v (.int .i64 (max 0 (min n 65536)))]) [.int .i64 c3, .int .i64 (max 0 (min n 65536))] 0 (by kernel_rfl) (by kernel_rfl) (by kernel_rfl) (rAddG_ok c3 (max 0 (min n 65536)) (by assumption) (by unfold r64; omega) _) ?_
        rintro v13 G13 rows13 hG13 ⟨rfl, rfl⟩
        refine X.run 11 [6] [6] (.ex .ret) [] ⟨37, [(6, .own 6 0)], [(6, ⟨48, [.v (.int .i64 c0), .v (.int .i64 c1), .v (.int .i64 (sadd c2 (max 0 (min n 65536)))), .v (.int .i64 (sadd c3 (max 0 (min n 65536))))]⟩)]⟩ (by kernel_rfl) ?_
        refine doneG (.inl rfl) [.agg #[.int .i64 c0, .int .i64 c1, .int .i64 (sadd c2 (max 0 (min n 65536))), .int .i64 (sadd c3 (max 0 (min n 65536)))]] [] (by kernel_rfl) rfl rfl ((hG11.trans hG13)) ?_
        -- end 5 (FTT)
        refine ⟨⟨_, _, _, _, rfl, ?_, ?_, ?_, ?_⟩, rfl⟩ <;> (first | (rw [if_pos (by omega)] <;> first | rfl | (exfalso; omega)) | (rw [if_neg (by omega)] <;> first | rfl | (exfalso; omega)))
      · -- slot 30: cd == 1 is False
        replace h12 : cd ≠ 1 := by simpa using h12
        refine X.run 10 [6] [6] (.ex .ret) [] ⟨37, [(6, .own 6 0)], [(6, ⟨48, [.v (.int .i64 c0), .v (.int .i64 c1), .v (.int .i64 (sadd c2 (max 0 (min n 65536)))), .v (.int .i64 c3)]⟩)]⟩ (by kernel_rfl) ?_
        refine doneG (.inl rfl) [.agg #[.int .i64 c0, .int .i64 c1, .int .i64 (sadd c2 (max 0 (min n 65536))), .int .i64 c3]] [] (by kernel_rfl) rfl rfl (hG11) ?_
        -- end 6 (FTF)
        refine ⟨⟨_, _, _, _, rfl, ?_, ?_, ?_, ?_⟩, rfl⟩ <;> (first | (rw [if_pos (by omega)] <;> first | rfl | (exfalso; omega)) | (rw [if_neg (by omega)] <;> first | rfl | (exfalso; omega)))
    · -- slot 23: cd == 2 is False
      replace h10 : cd ≠ 2 := by simpa using h10
      refine X.run 10 [3, 6, 7, 30] [3, 6] (.code (cA B56 [1, 1, 1, 1, 0, 1])) [.seq (cA B56 [1, 1, 1, 1, 1])] ⟨37, [(3, .own 3 0), (6, .own 6 0), (7, .v (.int .i64 (max 0 (min n 65536)))), (30, .v (.bool (cd == 1)))], [(3, ⟨48, [.v (.int .i64 c0), .v (.int .i64 c1), .v (.int .i64 c2), .v (.int .i64 c3)]⟩), (6, ⟨48, [.v (.int .i64 0), .v (.int .i64 0), .v (.int .i64 0), .v (.int .i64 0)]⟩)]⟩ (by kernel_rfl) ?_
      refine X.split 30 rfl (fun h14 => ?_) (fun h14 => ?_)
      · -- slot 30: cd == 1 is True
        replace h14 : cd = 1 := by simpa using h14
        refine X.run 5 [3, 6, 32, 33] [3, 6] (.ops (aA B56 [1, 1, 1, 1, 0, 1, 0]) (oA B56 [1, 1, 1, 1, 0, 1, 0] 3 :: lA B56 [1, 1, 1, 1, 0, 1, 0] 4)) [.seq (cA B56 [1, 1, 1, 1, 1])] ⟨37, [(3, .own 3 0), (6, .own 6 0), (32, .v (.int .i64 c3)), (33, .v (.int .i64 (max 0 (min n 65536))))], [(3, ⟨48, [.v (.int .i64 c0), .v (.int .i64 c1), .v (.int .i64 c2), .v (.int .i64 c3)]⟩), (6, ⟨48, [.v (.int .i64 0), .v (.int .i64 0), .v (.int .i64 0), .v (.int .i64 0)]⟩)]⟩ (by kernel_rfl) ?_
        refine X.callG (f := 84) (l := [.v (.int .i64 c3), .v (.int .i64 (max 0 (min n 65536)))]) [.int .i64 c3, .int .i64 (max 0 (min n 65536))] 0 (by kernel_rfl) (by kernel_rfl) (by kernel_rfl) (rAddG_ok c3 (max 0 (min n 65536)) (by assumption) (by unfold r64; omega) _) ?_
        rintro v15 G15 rows15 hG15 ⟨rfl, rfl⟩
        refine X.run 11 [6] [6] (.ex .ret) [] ⟨37, [(6, .own 6 0)], [(6, ⟨48, [.v (.int .i64 c0), .v (.int .i64 c1), .v (.int .i64 c2), .v (.int .i64 (sadd c3 (max 0 (min n 65536))))]⟩)]⟩ (by kernel_rfl) ?_
        refine doneG (.inl rfl) [.agg #[.int .i64 c0, .int .i64 c1, .int .i64 c2, .int .i64 (sadd c3 (max 0 (min n 65536)))]] [] (by kernel_rfl) rfl rfl (hG15) ?_
        -- end 7 (FFT)
        refine ⟨⟨_, _, _, _, rfl, ?_, ?_, ?_, ?_⟩, rfl⟩ <;> (first | (rw [if_pos (by omega)] <;> first | rfl | (exfalso; omega)) | (rw [if_neg (by omega)] <;> first | rfl | (exfalso; omega)))
      · -- slot 30: cd == 1 is False
        replace h14 : cd ≠ 1 := by simpa using h14
        refine X.run 10 [6] [6] (.ex .ret) [] ⟨37, [(6, .own 6 0)], [(6, ⟨48, [.v (.int .i64 c0), .v (.int .i64 c1), .v (.int .i64 c2), .v (.int .i64 c3)]⟩)]⟩ (by kernel_rfl) ?_
        refine doneG (.inl rfl) [.agg #[.int .i64 c0, .int .i64 c1, .int .i64 c2, .int .i64 c3]] [] (by kernel_rfl) rfl rfl (Ge.refl _ _) ?_
        -- end 8 (FFF)
        refine ⟨⟨_, _, _, _, rfl, ?_, ?_, ?_, ?_⟩, rfl⟩ <;> (first | (rw [if_pos (by omega)] <;> first | rfl | (exfalso; omega)) | (rw [if_neg (by omega)] <;> first | rfl | (exfalso; omega)))

/-- leat/leatref15.Low -/
noncomputable def B59 : Code := bodyOf Try.f59
set_option maxHeartbeats 1000000 in
theorem hLow8_ok (n : Int) (h : (-9223372036854775808 ≤ n ∧ n ≤ 9223372036854775807)) (G : Mem) : CallsG Try.prog 59 [.int .i64 n, .int .i64 8] G (fun _ v rows => v = .int .i64 (n % 8) ∧ rows = []) := by
  refine CallsG.enter Try.func59 rfl rfl ?_
  intro w
  refine X.run 20 [1, 4, 5, 10] [] (.code (cA B59 [1, 1, 0, 1])) [.seq (cA B59 [1, 1, 1])] ⟨15, [(1, .v (.int .i64 8)), (4, .v (.int .i64 0)), (5, .v (.int .i64 (Int.tmod n 8))), (10, .v (.bool (decide (Int.tmod n 8 < 0))))], []⟩ (by kernel_rfl) ?_
  refine X.split 10 rfl (fun h1 => ?_) (fun h1 => ?_)
  · -- slot 10: decide (Int.tmod n 8 < 0) is True
    replace h1 : Int.tmod n 8 < 0 := of_decide_eq_true h1
    refine X.run 15 [4] [] (.ex .ret) [] ⟨15, [(4, .v (.int .i64 (IntKind.i64.wrap ((Int.tmod n 8) + 8))))], []⟩ (by kernel_rfl) ?_
    refine doneG (.inl rfl) [.int .i64 (IntKind.i64.wrap ((Int.tmod n 8) + 8))] [] (by kernel_rfl) rfl rfl (Ge.refl _ _) ?_
    -- end 1 (T)
    have hq_ := Int.mul_tdiv_add_tmod n 8
    have ha_ := Int.lt_tmod_of_pos n (show (0 : Int) < 8 by decide)
    have hb_ := Int.tmod_lt_of_pos n (show (0 : Int) < 8 by decide)
    refine ⟨?_, rfl⟩
    rw [show IntKind.i64.wrap (Int.tmod n 8 + 8) = n % 8 by rw [wi64 (by omega) (by omega)]; omega]
    rfl
  · -- slot 10: decide (Int.tmod n 8 < 0) is False
    replace h1 : ¬ (Int.tmod n 8 < 0) := of_decide_eq_false h1
    refine X.run 10 [4] [] (.ex .ret) [] ⟨15, [(4, .v (.int .i64 (Int.tmod n 8)))], []⟩ (by kernel_rfl) ?_
    refine doneG (.inl rfl) [.int .i64 (Int.tmod n 8)] [] (by kernel_rfl) rfl rfl (Ge.refl _ _) ?_
    -- end 2 (F)
    have hq_ := Int.mul_tdiv_add_tmod n 8
    have ha_ := Int.lt_tmod_of_pos n (show (0 : Int) < 8 by decide)
    have hb_ := Int.tmod_lt_of_pos n (show (0 : Int) < 8 by decide)
    refine ⟨?_, rfl⟩
    rw [show Int.tmod n 8 = n % 8 by omega]
    rfl

set_option maxHeartbeats 1000000 in
theorem hLow24_ok (n : Int) (h : (-9223372036854775808 ≤ n ∧ n ≤ 9223372036854775807)) (G : Mem) : CallsG Try.prog 59 [.int .i64 n, .int .i64 16777216] G (fun _ v rows => v = .int .i64 (n % 16777216) ∧ rows = []) := by
  refine CallsG.enter Try.func59 rfl rfl ?_
  intro w
  refine X.run 20 [1, 4, 5, 10] [] (.code (cA B59 [1, 1, 0, 1])) [.seq (cA B59 [1, 1, 1])] ⟨15, [(1, .v (.int .i64 16777216)), (4, .v (.int .i64 0)), (5, .v (.int .i64 (Int.tmod n 16777216))), (10, .v (.bool (decide (Int.tmod n 16777216 < 0))))], []⟩ (by kernel_rfl) ?_
  refine X.split 10 rfl (fun h1 => ?_) (fun h1 => ?_)
  · -- slot 10: decide (Int.tmod n 16777216 < 0) is True
    replace h1 : Int.tmod n 16777216 < 0 := of_decide_eq_true h1
    refine X.run 15 [4] [] (.ex .ret) [] ⟨15, [(4, .v (.int .i64 (IntKind.i64.wrap ((Int.tmod n 16777216) + 16777216))))], []⟩ (by kernel_rfl) ?_
    refine doneG (.inl rfl) [.int .i64 (IntKind.i64.wrap ((Int.tmod n 16777216) + 16777216))] [] (by kernel_rfl) rfl rfl (Ge.refl _ _) ?_
    -- end 1 (T)
    have hq_ := Int.mul_tdiv_add_tmod n 16777216
    have ha_ := Int.lt_tmod_of_pos n (show (0 : Int) < 16777216 by decide)
    have hb_ := Int.tmod_lt_of_pos n (show (0 : Int) < 16777216 by decide)
    refine ⟨?_, rfl⟩
    rw [show IntKind.i64.wrap (Int.tmod n 16777216 + 16777216) = n % 16777216 by rw [wi64 (by omega) (by omega)]; omega]
    rfl
  · -- slot 10: decide (Int.tmod n 16777216 < 0) is False
    replace h1 : ¬ (Int.tmod n 16777216 < 0) := of_decide_eq_false h1
    refine X.run 10 [4] [] (.ex .ret) [] ⟨15, [(4, .v (.int .i64 (Int.tmod n 16777216)))], []⟩ (by kernel_rfl) ?_
    refine doneG (.inl rfl) [.int .i64 (Int.tmod n 16777216)] [] (by kernel_rfl) rfl rfl (Ge.refl _ _) ?_
    -- end 2 (F)
    have hq_ := Int.mul_tdiv_add_tmod n 16777216
    have ha_ := Int.lt_tmod_of_pos n (show (0 : Int) < 16777216 by decide)
    have hb_ := Int.tmod_lt_of_pos n (show (0 : Int) < 16777216 by decide)
    refine ⟨?_, rfl⟩
    rw [show Int.tmod n 16777216 = n % 16777216 by omega]
    rfl

/-- leat/leatref15.Bytes -/
noncomputable def B60 : Code := bodyOf Try.f60
set_option maxHeartbeats 1000000 in
theorem hrBytes_ok (c0 c1 c2 c3 : Int) (h0 : r64 c0) (h1 : r64 c1) (h2 : r64 c2) (h3 : r64 c3) (G : Mem) : CallsG Try.prog 60 [.agg #[.int .i64 c0, .int .i64 c1, .int .i64 c2, .int .i64 c3]] G (fun _ v rows => v = .agg #[.int .i64 (c2 % 16777216), .int .i64 (c1 % 16777216), .int .i64 (c3 % 16777216)] ∧ rows = []) := by
  refine CallsG.enter Try.func60 rfl rfl ?_
  intro w
  refine X.run 7 [1, 2] [1, 2] (.code (cA B60 [1, 0])) [.seq (cA B60 [1, 1])] ⟨13, [(1, .own 1 0), (2, .own 2 0)], [(1, ⟨48, [.v (.int .i64 c0), .v (.int .i64 c1), .v (.int .i64 c2), .v (.int .i64 c3)]⟩), (2, ⟨38, [.v (.int .i64 0), .v (.int .i64 0), .v (.int .i64 0)]⟩)]⟩ (by kernel_rfl) ?_
  refine XD.open (id := 1) (arr := aA B60 [1, 0]) 11 [⟨some 1, 1, 48, [.v (.int .i64 c0), .v (.int .i64 c1), .v (.int .i64 c2), .v (.int .i64 c3)]⟩] [] [] (by kernel_rfl) (by kernel_rfl) (by kernel_rfl) (by kernel_rfl) (by kernel_rfl) ⟨⟨fun _ h => (by cases h; rfl), rfl⟩, trivial⟩ (by intro p hp hn; simp only [List.mem_cons, List.not_mem_nil, or_false] at hp; rcases hp with rfl <;> first | (cases hn; done) | exact absurd _ (Nat.le_of_ble_eq_true rfl)) rfl (fun ρ0 => ?_)
  refine XD.take (i := 0) (l' := (lb 11 1)) (oA B60 [1, 0] 0) (.own 1 2) QOk.ctxG (by kernel_rfl) (by kernel_rfl) (by kernel_rfl) (by kernel_rfl) (by kernel_rfl) ?_
  refine XD.take (i := 1) (l' := (lb 11 3)) (oA B60 [1, 0] 1) (.v (.int .i64 c2)) QOk.ctxG (by kernel_rfl) (by kernel_rfl) (by kernel_rfl) (by kernel_rfl) (by kernel_rfl) ?_
  refine XD.take (i := 3) (l' := (lb 11 11)) (oA B60 [1, 0] 3) (.own 1 1) QOk.ctxG (by kernel_rfl) (by kernel_rfl) (by kernel_rfl) (by kernel_rfl) (by kernel_rfl) ?_
  refine XD.take (i := 4) (l' := (lb 11 27)) (oA B60 [1, 0] 4) (.v (.int .i64 c1)) QOk.ctxG (by kernel_rfl) (by kernel_rfl) (by kernel_rfl) (by kernel_rfl) (by kernel_rfl) ?_
  refine XD.take (i := 6) (l' := (lb 11 91)) (oA B60 [1, 0] 6) (.own 1 3) QOk.ctxG (by kernel_rfl) (by kernel_rfl) (by kernel_rfl) (by kernel_rfl) (by kernel_rfl) ?_
  refine XD.take (i := 7) (l' := (lb 11 219)) (oA B60 [1, 0] 7) (.v (.int .i64 c3)) QOk.ctxG (by kernel_rfl) (by kernel_rfl) (by kernel_rfl) (by kernel_rfl) (by kernel_rfl) ?_
  refine XD.norm [1, 2, 4, 7, 10] [1, 2] ⟨13, [(1, .own 1 0), (2, .own 2 0), (4, .v (.int .i64 c2)), (7, .v (.int .i64 c1)), (10, .v (.int .i64 c3))], [(1, ⟨48, [.v (.int .i64 c0), .v (.int .i64 c1), .v (.int .i64 c2), .v (.int .i64 c3)]⟩), (2, ⟨38, [.v (.int .i64 0), .v (.int .i64 0), .v (.int .i64 0)]⟩)]⟩ (by kernel_rfl) ⟨⟨fun _ h => (by cases h; rfl), rfl⟩, trivial⟩ ?_
  refine XD.one (i := 2) (l' := (lb 11 223)) (oA B60 [1, 0] 2) (by kernel_rfl) (by kernel_rfl) (by kernel_rfl) ?_
  refine X.callG (f := 59) (l := [.v (.int .i64 c2), .v (.int .i64 16777216)]) [.int .i64 c2, .int .i64 16777216] 0 (by kernel_rfl) (by kernel_rfl) (by kernel_rfl) (hLow24_ok c2 (by assumption) _) ?_
  rintro v2 G2 rows2 hG2 ⟨rfl, rfl⟩
  refine X.back ⟨⟨⟨fun _ h => (by cases h; rfl), rfl⟩, trivial⟩, hG2.le, rfl, ?_⟩
  refine XD.norm [1, 2, 5, 7, 10] [1, 2] ⟨13, [(1, .own 1 0), (2, .own 2 0), (5, .v (.int .i64 (c2 % 16777216))), (7, .v (.int .i64 c1)), (10, .v (.int .i64 c3))], [(1, ⟨48, [.v (.int .i64 c0), .v (.int .i64 c1), .v (.int .i64 c2), .v (.int .i64 c3)]⟩), (2, ⟨38, [.v (.int .i64 0), .v (.int .i64 0), .v (.int .i64 0)]⟩)]⟩ (by kernel_rfl) ⟨⟨fun _ h => (by cases h; rfl), rfl⟩, trivial⟩ ?_
  refine XD.one (i := 5) (l' := (lb 11 255)) (oA B60 [1, 0] 5) (by kernel_rfl) (by kernel_rfl) (by kernel_rfl) ?_
  refine X.callG (f := 59) (l := [.v (.int .i64 c1), .v (.int .i64 16777216)]) [.int .i64 c1, .int .i64 16777216] 0 (by kernel_rfl) (by kernel_rfl) (by kernel_rfl) (hLow24_ok c1 (by assumption) _) ?_
  rintro v3 G3 rows3 hG3 ⟨rfl, rfl⟩
  refine X.back ⟨⟨⟨fun _ h => (by cases h; rfl), rfl⟩, trivial⟩, (hG2.trans hG3).le, rfl, ?_⟩
  refine XD.norm [1, 2, 5, 8, 10] [1, 2] ⟨13, [(1, .own 1 0), (2, .own 2 0), (5, .v (.int .i64 (c2 % 16777216))), (8, .v (.int .i64 (c1 % 16777216))), (10, .v (.int .i64 c3))], [(1, ⟨48, [.v (.int .i64 c0), .v (.int .i64 c1), .v (.int .i64 c2), .v (.int .i64 c3)]⟩), (2, ⟨38, [.v (.int .i64 0), .v (.int .i64 0), .v (.int .i64 0)]⟩)]⟩ (by kernel_rfl) ⟨⟨fun _ h => (by cases h; rfl), rfl⟩, trivial⟩ ?_
  refine XD.one (i := 8) (l' := (lb 11 511)) (oA B60 [1, 0] 8) (by kernel_rfl) (by kernel_rfl) (by kernel_rfl) ?_
  refine X.callG (f := 59) (l := [.v (.int .i64 c3), .v (.int .i64 16777216)]) [.int .i64 c3, .int .i64 16777216] 0 (by kernel_rfl) (by kernel_rfl) (by kernel_rfl) (hLow24_ok c3 (by assumption) _) ?_
  rintro v4 G4 rows4 hG4 ⟨rfl, rfl⟩
  refine X.back ⟨⟨⟨fun _ h => (by cases h; rfl), rfl⟩, trivial⟩, ((hG2.trans hG3).trans hG4).le, rfl, ?_⟩
  refine XD.take (i := 9) (l' := (lb 11 1023)) (oA B60 [1, 0] 9) (.v (.agg #[.int .i64 (c2 % 16777216), .int .i64 (c1 % 16777216), .int .i64 (c3 % 16777216)])) QOk.ctxG (by kernel_rfl) (by kernel_rfl) (by kernel_rfl) (by kernel_rfl) (by kernel_rfl) ?_
  refine XD.norm [1, 2, 12] [1, 2] ⟨13, [(1, .own 1 0), (2, .own 2 0), (12, .v (.agg #[.int .i64 (c2 % 16777216), .int .i64 (c1 % 16777216), .int .i64 (c3 % 16777216)]))], [(1, ⟨48, [.v (.int .i64 c0), .v (.int .i64 c1), .v (.int .i64 c2), .v (.int .i64 c3)]⟩), (2, ⟨38, [.v (.int .i64 0), .v (.int .i64 0), .v (.int .i64 0)]⟩)]⟩ (by kernel_rfl) ⟨⟨fun _ h => (by cases h; rfl), rfl⟩, trivial⟩ ?_
  refine XD.one (i := 10) (l' := (lb 11 2047)) (oA B60 [1, 0] 10) (by kernel_rfl) (by kernel_rfl) (by kernel_rfl) ?_
  refine X.simple (by kernel_rfl) ?_
  refine X.back ⟨⟨⟨fun _ h => (by cases h; rfl), rfl⟩, trivial⟩, ((hG2.trans hG3).trans hG4).le, rfl, ?_⟩
  refine XD.done (by kernel_rfl) ?_
  refine X.run 2 [2] [2] (.ex .ret) [] ⟨13, [(2, .own 2 0)], [(2, ⟨38, [.v (.int .i64 (c2 % 16777216)), .v (.int .i64 (c1 % 16777216)), .v (.int .i64 (c3 % 16777216))]⟩)]⟩ (by kernel_rfl) ?_
  refine doneG (.inl rfl) [.agg #[.int .i64 (c2 % 16777216), .int .i64 (c1 % 16777216), .int .i64 (c3 % 16777216)]] [] (by kernel_rfl) rfl rfl (((hG2.trans hG3).trans hG4)) ?_
  -- end 1 ()
  exact ⟨rfl, rfl⟩

set_option maxHeartbeats 1000000 in
theorem hcBytes_ok (c0 c1 c2 c3 : Int) (G : Mem) : CallsG Try.prog 55 [.agg #[.int .i64 c0, .int .i64 c1, .int .i64 c2, .int .i64 c3]] G (fun _ v rows => v = .agg #[.int .i64 (c2 % 16777216), .int .i64 (c1 % 16777216), .int .i64 (c3 % 16777216)] ∧ rows = []) := by
  refine CallsG.enter Try.func55 rfl rfl ?_
  intro w
  refine X.run 22 [2] [2] (.ex .ret) [] ⟨13, [(2, .own 2 0)], [(2, ⟨38, [.v (.int .i64 (band .i64 c2 16777215)), .v (.int .i64 (band .i64 c1 16777215)), .v (.int .i64 (band .i64 c3 16777215))]⟩)]⟩ (by kernel_rfl) ?_
  refine doneG (.inl rfl) [.agg #[.int .i64 (band .i64 c2 16777215), .int .i64 (band .i64 c1 16777215), .int .i64 (band .i64 c3 16777215)]] [] (by kernel_rfl) rfl rfl (Ge.refl _ _) ?_
  -- end 1 ()
  refine ⟨?_, rfl⟩
  rw [← band24S c2, ← band24S c1, ← band24S c3]
  rfl

/-- leat/leatref30.Has -/
noncomputable def B57 : Code := bodyOf Try.f57
set_option maxHeartbeats 1000000 in
theorem Has_ok (A : Option Addr) (c : Nat) (ks : List Int) (j : Int) (G : Mem) (hr : rowAt (D.int .i64) G A ks) (hle : ks.length ≤ c) (hmx : c ≤ maxLen) : CallsG Try.prog 57 [.slice A ks.length c, .int .i64 j] G (fun _ v rows => v = .bool (decide (j ∈ ks)) ∧ rows = []) := by
  simp only [maxLen] at hmx
  refine CallsG.enter Try.func57 rfl rfl ?_
  intro w
  refine X.run 12 [0, 1, 4, 5] [] (.code (cA B57 [1, 0, 1, 0])) [.blk 0, .seq (cA B57 [1, 1])] ⟨18, [(0, .v (.slice A ks.length c)), (1, .v (.int .i64 j)), (4, .v (.bool false)), (5, .v (.int .i64 0))], []⟩ (by kernel_rfl) ?_
  refine X.run 0 [0, 1, 5] [] (.code (cA B57 [1, 0, 1, 0])) [.blk 0, .seq (cA B57 [1, 1])] ⟨18, [(0, .v (.slice A ks.length c)), (1, .v (.int .i64 j)), (5, .v (.int .i64 0))], []⟩ (by kernel_rfl) ?_
  refine X.loopJ (fun m s R' G' => ∃ (i : Int), s = ⟨18, [(0, .v (.slice A ks.length c)), (1, .v (.int .i64 j)), (5, .v (.int .i64 i))], []⟩ ∧ R' = [] ∧ G = G' ∧ (0 ≤ i ∧ i ≤ (ks.length : Int) ∧ ¬ (j ∈ ks.take i.toNat)) ∧ m = ((ks.length : Int) - i).toNat) _ ⟨0, rfl, rfl, rfl, ⟨by omega, by omega, by simp⟩, rfl⟩ ?_
  rintro m1 s1 R1 G1 ⟨i, rfl, rfl, rfl, hF1, rfl⟩ J1 hJ1
  obtain ⟨hi0, hi1, hi2⟩ := hF1
  refine X.run 9 [0, 1, 5, 9] [] (.code (cA B57 [1, 0, 1, 0, 0, 0, 1])) [.seq (cA B57 [1, 0, 1, 0, 0, 1]), .loop J1, .blk 0, .seq (cA B57 [1, 1])] ⟨18, [(0, .v (.slice A ks.length c)), (1, .v (.int .i64 j)), (5, .v (.int .i64 i)), (9, .v (.bool (decide (i < ((ks.length : Nat) : Int)))))], []⟩ (by kernel_rfl) ?_
  refine X.split 9 rfl (fun h2 => ?_) (fun h2 => ?_)
  · -- slot 9: decide (i < ((ks.length : Nat) : Int)) is True
    replace h2 : i < ((ks.length : Nat) : Int) := of_decide_eq_true h2
    refine X.run 9 [0, 1, 5, 12, 13] [] (.ops (aA B57 [1, 0, 1, 0, 0, 1, 0, 0, 0]) (oA B57 [1, 0, 1, 0, 0, 1, 0, 0, 0] 2 :: lA B57 [1, 0, 1, 0, 0, 1, 0, 0, 0] 3)) [.seq (cA B57 [1, 0, 1, 0, 0, 1, 0, 0, 1]), .blk 1, .seq (cA B57 [1, 0, 1, 0, 0, 1, 1]), .loop J1, .blk 0, .seq (cA B57 [1, 1])] ⟨18, [(0, .v (.slice A ks.length c)), (1, .v (.int .i64 j)), (5, .v (.int .i64 i)), (12, .v (.slice A ks.length c)), (13, .v (.int .i64 i))], []⟩ (by kernel_rfl) ?_
    have b3 : (0 : Int) ≤ i := by omega
    have b4 : i < ((ks.length : Nat) : Int) := by omega
    refine X.index (t := 22) (e := 2) (sz := 1) (A := A) (n := ks.length) (c := c) (ki := .i64) (i := i) (x := .tmp 12) (ix := .tmp 13) (by kernel_rfl) (by kernel_rfl) (by kernel_rfl) (by kernel_rfl) (by kernel_rfl) (by kernel_rfl) b3 b4 (fun _ _ => rowAt.so hr (by omega)) ?_
    obtain ⟨at5, lo5, hi5⟩ := At.int [] hr ((i).toNat) (by omega)
    simp only [IntKind.lo, IntKind.hi] at lo5 hi5
    refine X.run 0 [0, 1, 5, 14] [] (.ops (aA B57 [1, 0, 1, 0, 0, 1, 0, 0, 0]) (oA B57 [1, 0, 1, 0, 0, 1, 0, 0, 0] 3 :: lA B57 [1, 0, 1, 0, 0, 1, 0, 0, 0] 4)) [.seq (cA B57 [1, 0, 1, 0, 0, 1, 0, 0, 1]), .blk 1, .seq (cA B57 [1, 0, 1, 0, 0, 1, 1]), .loop J1, .blk 0, .seq (cA B57 [1, 1])] ⟨18, [(0, .v (.slice A ks.length c)), (1, .v (.int .i64 j)), (5, .v (.int .i64 i)), (14, .v (elt A ((i).toNat * 1)))], []⟩ (by kernel_rfl) ?_
    refine X.load (t := 2) (A := A) (j := (i).toNat * 1) (x := .tmp 14) (z := .int .i64 (ks.getD ((i).toNat) 0)) [.int .i64 (ks.getD ((i).toNat) 0)] (by kernel_rfl) (by kernel_rfl) at5 (by kernel_rfl) (by kernel_rfl) ?_
    refine X.run 4 [0, 1, 5, 17] [] (.code (cA B57 [1, 0, 1, 0, 0, 1, 0, 0, 1])) [.blk 1, .seq (cA B57 [1, 0, 1, 0, 0, 1, 1]), .loop J1, .blk 0, .seq (cA B57 [1, 1])] ⟨18, [(0, .v (.slice A ks.length c)), (1, .v (.int .i64 j)), (5, .v (.int .i64 i)), (17, .v (.bool ((ks.getD ((i).toNat) 0) == j)))], []⟩ (by kernel_rfl) ?_
    refine X.split 17 rfl (fun h6 => ?_) (fun h6 => ?_)
    · -- slot 17: (ks.getD ((i).toNat) 0) == j is True
      replace h6 : (ks.getD ((i).toNat) 0) = j := by simpa using h6
      refine X.run 12 [4] [] (.ex .ret) [] ⟨18, [(4, .v (.bool true))], []⟩ (by kernel_rfl) ?_
      refine doneG (.inl rfl) [.bool true] [] (by kernel_rfl) rfl rfl (Ge.refl _ _) ?_
      -- end 1 (TT)
      refine ⟨congrArg Value.bool ?_, rfl⟩
      rw [eq_comm, decide_eq_true_iff]
      have hm_ := (mem_take_succ (ks := ks) (i := i.toNat) (j := j) (by omega)).mpr (.inr ((by assumption : ks.getD i.toNat 0 = j)).symm)
      exact List.mem_of_mem_take hm_
    · -- slot 17: (ks.getD ((i).toNat) 0) == j is False
      replace h6 : (ks.getD ((i).toNat) 0) ≠ j := by simpa using h6
      refine X.run 9 [0, 1, 5] [] (.ex .normal) [.loop J1, .blk 0, .seq (cA B57 [1, 1])] ⟨18, [(0, .v (.slice A ks.length c)), (1, .v (.int .i64 j)), (5, .v (.int .i64 (IntKind.i64.wrap (i + 1))))], []⟩ (by kernel_rfl) ?_
      -- again (TF)
      have e1 : IntKind.i64.wrap (i + 1) = i + 1 := wi64 (by omega) (by omega)
      have e0 : (i + 1).toNat = i.toNat + 1 := by omega
      exact X.again (hJ1 _ _ _ _ ⟨IntKind.i64.wrap (i + 1), rfl, rfl, rfl, ⟨by omega, by omega, by rw [e1, e0, mem_take_succ (by omega)]; rintro (h | h); exact hi2 h; exact absurd h.symm (by assumption)⟩, rfl⟩ (by rw [e1]; omega))
  · -- slot 9: decide (i < ((ks.length : Nat) : Int)) is False
    replace h2 : ¬ (i < ((ks.length : Nat) : Int)) := of_decide_eq_false h2
    refine X.run 12 [4] [] (.ex .ret) [] ⟨18, [(4, .v (.bool false))], []⟩ (by kernel_rfl) ?_
    refine doneG (.inl rfl) [.bool false] [] (by kernel_rfl) rfl rfl (Ge.refl _ _) ?_
    -- end 2 (F)
    refine ⟨congrArg Value.bool ?_, rfl⟩
    rw [eq_comm, decide_eq_false_iff_not]
    rw [List.take_of_length_le (by omega)] at hi2
    exact hi2

/-- leat/leatref30.without -/
noncomputable def B58 : Code := bodyOf Try.f58
set_option maxHeartbeats 1000000 in
theorem without_ok (A : Option Addr) (c : Nat) (ks : List Int) (j : Int) (G : Mem) (hr : rowAt (D.int .i64) G A ks) (hle : ks.length ≤ c) (hmx : c ≤ maxLen) (hs : ks.length ≤ 100000) : CallsG Try.prog 58 [.slice A ks.length c, .int .i64 j] G (fun _ v rows => ∃ A' c', v = .slice A' (ks.filter (fun k => k != j)).length c' ∧ rows = [⟨2, 1, .slice A' (ks.filter (fun k => k != j)).length c', (ks.filter (fun k => k != j)).length, (ks.filter (fun k => k != j)).map (Value.int .i64)⟩]) := by
  simp only [maxLen] at hmx
  refine CallsG.enter Try.func58 rfl rfl ?_
  intro w
  refine X.run 17 [0, 1, 4, 5, 6] [] (.code (cA B58 [1, 1, 0, 1, 0])) [.blk 0, .seq (cA B58 [1, 1, 1])] ⟨27, [(0, .v (.slice A ks.length c)), (1, .v (.int .i64 j)), (4, .v (.slice none 0 0)), (5, .v (.slice none 0 0)), (6, .v (.int .i64 0))], []⟩ (by kernel_rfl) ?_
  refine X.nilRow 25 2 1 rfl ?_
  refine X.loopJ (fun m s R' G' => ∃ (B_ : Option Addr) (c_ n_ : Nat) (l_ : List Int) (i : Int), s = ⟨27, [(0, .v (.slice A ks.length c)), (1, .v (.int .i64 j)), (4, .v (.slice none 0 0)), (5, .v (.slice B_ n_ c_)), (6, .v (.int .i64 i))], []⟩ ∧ R' = [(25, ⟨2, 1, .slice B_ n_ c_, n_, (l_).map (Value.int .i64)⟩)] ∧ G = G' ∧ (0 ≤ i ∧ i ≤ (ks.length : Int) ∧ l_ = (ks.take i.toNat).filter (fun k => k != j) ∧ n_ = l_.length ∧ (n_ : Int) ≤ i) ∧ m = ((ks.length : Int) - i).toNat) _ ⟨none, 0, 0, [], 0, rfl, rfl, rfl, ⟨by omega, by omega, rfl, rfl, by omega⟩, rfl⟩ ?_
  rintro m1 s1 R1 G1 ⟨B_, c_, n_, l_, i, rfl, rfl, rfl, hF1, rfl⟩ J1 hJ1
  obtain ⟨hi0, hi1, hl, hn, hni⟩ := hF1
  refine X.run 9 [0, 1, 4, 5, 6, 10] [] (.code (cA B58 [1, 1, 0, 1, 0, 0, 0, 1])) [.seq (cA B58 [1, 1, 0, 1, 0, 0, 1]), .loop J1, .blk 0, .seq (cA B58 [1, 1, 1])] ⟨27, [(0, .v (.slice A ks.length c)), (1, .v (.int .i64 j)), (4, .v (.slice none 0 0)), (5, .v (.slice B_ n_ c_)), (6, .v (.int .i64 i)), (10, .v (.bool (decide (i < ((ks.length : Nat) : Int)))))], []⟩ (by kernel_rfl) ?_
  refine X.split 10 rfl (fun h2 => ?_) (fun h2 => ?_)
  · -- slot 10: decide (i < ((ks.length : Nat) : Int)) is True
    replace h2 : i < ((ks.length : Nat) : Int) := of_decide_eq_true h2
    refine X.run 9 [0, 1, 4, 5, 6, 13, 14] [] (.ops (aA B58 [1, 1, 0, 1, 0, 0, 1, 0, 0, 0]) (oA B58 [1, 1, 0, 1, 0, 0, 1, 0, 0, 0] 2 :: lA B58 [1, 1, 0, 1, 0, 0, 1, 0, 0, 0] 3)) [.seq (cA B58 [1, 1, 0, 1, 0, 0, 1, 0, 0, 1]), .blk 1, .seq (cA B58 [1, 1, 0, 1, 0, 0, 1, 1]), .loop J1, .blk 0, .seq (cA B58 [1, 1, 1])] ⟨27, [(0, .v (.slice A ks.length c)), (1, .v (.int .i64 j)), (4, .v (.slice none 0 0)), (5, .v (.slice B_ n_ c_)), (6, .v (.int .i64 i)), (13, .v (.slice A ks.length c)), (14, .v (.int .i64 i))], []⟩ (by kernel_rfl) ?_
    have b3 : (0 : Int) ≤ i := by omega
    have b4 : i < ((ks.length : Nat) : Int) := by omega
    refine X.index (t := 22) (e := 2) (sz := 1) (A := A) (n := ks.length) (c := c) (ki := .i64) (i := i) (x := .tmp 13) (ix := .tmp 14) (by kernel_rfl) (by kernel_rfl) (by kernel_rfl) (by kernel_rfl) (by kernel_rfl) (by kernel_rfl) b3 b4 (fun _ _ => rowAt.so hr (by omega)) ?_
    obtain ⟨at5, lo5, hi5⟩ := At.int [(25, ⟨2, 1, .slice B_ n_ c_, n_, (l_).map (Value.int .i64)⟩)] hr ((i).toNat) (by omega)
    simp only [IntKind.lo, IntKind.hi] at lo5 hi5
    refine X.run 0 [0, 1, 4, 5, 6, 15] [] (.ops (aA B58 [1, 1, 0, 1, 0, 0, 1, 0, 0, 0]) (oA B58 [1, 1, 0, 1, 0, 0, 1, 0, 0, 0] 3 :: lA B58 [1, 1, 0, 1, 0, 0, 1, 0, 0, 0] 4)) [.seq (cA B58 [1, 1, 0, 1, 0, 0, 1, 0, 0, 1]), .blk 1, .seq (cA B58 [1, 1, 0, 1, 0, 0, 1, 1]), .loop J1, .blk 0, .seq (cA B58 [1, 1, 1])] ⟨27, [(0, .v (.slice A ks.length c)), (1, .v (.int .i64 j)), (4, .v (.slice none 0 0)), (5, .v (.slice B_ n_ c_)), (6, .v (.int .i64 i)), (15, .v (elt A ((i).toNat * 1)))], []⟩ (by kernel_rfl) ?_
    refine X.load (t := 2) (A := A) (j := (i).toNat * 1) (x := .tmp 15) (z := .int .i64 (ks.getD ((i).toNat) 0)) [.int .i64 (ks.getD ((i).toNat) 0)] (by kernel_rfl) (by kernel_rfl) at5 (by kernel_rfl) (by kernel_rfl) ?_
    refine X.run 4 [0, 1, 4, 5, 6, 18] [] (.code (cA B58 [1, 1, 0, 1, 0, 0, 1, 0, 0, 1])) [.blk 1, .seq (cA B58 [1, 1, 0, 1, 0, 0, 1, 1]), .loop J1, .blk 0, .seq (cA B58 [1, 1, 1])] ⟨27, [(0, .v (.slice A ks.length c)), (1, .v (.int .i64 j)), (4, .v (.slice none 0 0)), (5, .v (.slice B_ n_ c_)), (6, .v (.int .i64 i)), (18, .v (.bool ((ks.getD ((i).toNat) 0) != j)))], []⟩ (by kernel_rfl) ?_
    refine X.split 18 rfl (fun h6 => ?_) (fun h6 => ?_)
    · -- slot 18: (ks.getD ((i).toNat) 0) != j is True
      replace h6 : (ks.getD ((i).toNat) 0) ≠ j := by simpa using h6
      refine X.run 5 [0, 1, 4, 5, 6, 19, 20, 21] [] (.ops (aA B58 [1, 1, 0, 1, 0, 0, 1, 0, 0, 1, 0]) (oA B58 [1, 1, 0, 1, 0, 0, 1, 0, 0, 1, 0] 3 :: lA B58 [1, 1, 0, 1, 0, 0, 1, 0, 0, 1, 0] 4)) [.blk 1, .seq (cA B58 [1, 1, 0, 1, 0, 0, 1, 1]), .loop J1, .blk 0, .seq (cA B58 [1, 1, 1])] ⟨27, [(0, .v (.slice A ks.length c)), (1, .v (.int .i64 j)), (4, .v (.slice none 0 0)), (5, .v (.slice B_ n_ c_)), (6, .v (.int .i64 i)), (19, .v (.slice B_ n_ c_)), (20, .v (.slice A ks.length c)), (21, .v (.int .i64 i))], []⟩ (by kernel_rfl) ?_
      have b7 : (0 : Int) ≤ i := by omega
      have b8 : i < ((ks.length : Nat) : Int) := by omega
      refine X.index (t := 22) (e := 2) (sz := 1) (A := A) (n := ks.length) (c := c) (ki := .i64) (i := i) (x := .tmp 20) (ix := .tmp 21) (by kernel_rfl) (by kernel_rfl) (by kernel_rfl) (by kernel_rfl) (by kernel_rfl) (by kernel_rfl) b7 b8 (fun _ _ => rowAt.so hr (by omega)) ?_
      obtain ⟨at9, lo9, hi9⟩ := At.int [(25, ⟨2, 1, .slice B_ n_ c_, n_, (l_).map (Value.int .i64)⟩)] hr ((i).toNat) (by omega)
      simp only [IntKind.lo, IntKind.hi] at lo9 hi9
      refine X.run 0 [0, 1, 4, 5, 6, 19, 22] [] (.ops (aA B58 [1, 1, 0, 1, 0, 0, 1, 0, 0, 1, 0]) (oA B58 [1, 1, 0, 1, 0, 0, 1, 0, 0, 1, 0] 4 :: lA B58 [1, 1, 0, 1, 0, 0, 1, 0, 0, 1, 0] 5)) [.blk 1, .seq (cA B58 [1, 1, 0, 1, 0, 0, 1, 1]), .loop J1, .blk 0, .seq (cA B58 [1, 1, 1])] ⟨27, [(0, .v (.slice A ks.length c)), (1, .v (.int .i64 j)), (4, .v (.slice none 0 0)), (5, .v (.slice B_ n_ c_)), (6, .v (.int .i64 i)), (19, .v (.slice B_ n_ c_)), (22, .v (elt A ((i).toNat * 1)))], []⟩ (by kernel_rfl) ?_
      refine X.load (t := 2) (A := A) (j := (i).toNat * 1) (x := .tmp 22) (z := .int .i64 (ks.getD ((i).toNat) 0)) [.int .i64 (ks.getD ((i).toNat) 0)] (by kernel_rfl) (by kernel_rfl) at9 (by kernel_rfl) (by kernel_rfl) ?_
      refine X.run 0 [0, 1, 4, 5, 6, 19, 23] [] (.ops (aA B58 [1, 1, 0, 1, 0, 0, 1, 0, 0, 1, 0]) (oA B58 [1, 1, 0, 1, 0, 0, 1, 0, 0, 1, 0] 5 :: lA B58 [1, 1, 0, 1, 0, 0, 1, 0, 0, 1, 0] 6)) [.blk 1, .seq (cA B58 [1, 1, 0, 1, 0, 0, 1, 1]), .loop J1, .blk 0, .seq (cA B58 [1, 1, 1])] ⟨27, [(0, .v (.slice A ks.length c)), (1, .v (.int .i64 j)), (4, .v (.slice none 0 0)), (5, .v (.slice B_ n_ c_)), (6, .v (.int .i64 i)), (19, .v (.slice B_ n_ c_)), (23, .v (.int .i64 (ks.getD ((i).toNat) 0)))], []⟩ (by kernel_rfl) ?_
      refine X.lit 24 2 1 1 [.int .i64 (ks.getD ((i).toNat) 0)] (by kernel_rfl) (fun g => by kernel_rfl) ?_
      intro A10
      refine X.run 0 [0, 1, 4, 5, 6, 19, 24] [] (.ops (aA B58 [1, 1, 0, 1, 0, 0, 1, 0, 0, 1, 0]) (oA B58 [1, 1, 0, 1, 0, 0, 1, 0, 0, 1, 0] 6 :: lA B58 [1, 1, 0, 1, 0, 0, 1, 0, 0, 1, 0] 7)) [.blk 1, .seq (cA B58 [1, 1, 0, 1, 0, 0, 1, 1]), .loop J1, .blk 0, .seq (cA B58 [1, 1, 1])] ⟨27, [(0, .v (.slice A ks.length c)), (1, .v (.int .i64 j)), (4, .v (.slice none 0 0)), (5, .v (.slice B_ n_ c_)), (6, .v (.int .i64 i)), (19, .v (.slice B_ n_ c_)), (24, .v (.slice A10 1 1))], []⟩ (by kernel_rfl) ?_
      refine X.append 25 ⟨2, 1, .slice B_ n_ c_, n_, (l_).map (Value.int .i64)⟩ 22 8 (.int .i64 0) (x := .tmp 19) (y := .tmp 24) (n := n_) (c := c_) (m := 1) (c2 := 1) (A := B_) (B := A10) (news := [.int .i64 (ks.getD ((i).toNat) 0)]) (by kernel_rfl) (by kernel_rfl) (by kernel_rfl) (by kernel_rfl) (by kernel_rfl) rfl (Nat.succ_pos _) (by kernel_rfl) (.inl rfl) rfl rfl (by kernel_rfl) (At.of_row (i := 24) (r := ⟨2, 1, .slice A10 1 1, 1, [.int .i64 (ks.getD ((i).toNat) 0)]⟩) rfl rfl) (fun w hw e => absurd (rowSome (i := 24) (q := ⟨2, 1, .slice A10 1 1, 1, [.int .i64 (ks.getD ((i).toNat) 0)]⟩) rfl rfl (Nat.succ_pos _) w hw) (by rw [e]; decide)) (ones (by kernel_rfl)) (by omega) (by decide) ?_
      intro A11 c11 hc11
      refine X.tellR [25, 24] (R' := [(25, ⟨2, 1, .slice A11 (n_ + 1) c11, n_ + 1, (l_ ++ [(ks.getD ((i).toNat) 0)]).map (Value.int .i64)⟩), (24, ⟨2, 1, .slice A10 1 1, 1, [.int .i64 (ks.getD ((i).toNat) 0)]⟩)]) (congrArg (fun cs_ => (25, (⟨2, 1, .slice A11 (n_ + 1) c11, n_ + 1, cs_⟩ : Row)) :: [(24, ⟨2, 1, .slice A10 1 1, 1, [.int .i64 (ks.getD ((i).toNat) 0)]⟩)]) (show (l_).map (Value.int .i64) ++ [.int .i64 (ks.getD ((i).toNat) 0)] = (l_ ++ [(ks.getD ((i).toNat) 0)]).map (Value.int .i64) by simp)) ?_
      refine X.run 9 [0, 1, 4, 5, 6] [] (.ex .normal) [.loop J1, .blk 0, .seq (cA B58 [1, 1, 1])] ⟨27, [(0, .v (.slice A ks.length c)), (1, .v (.int .i64 j)), (4, .v (.slice none 0 0)), (5, .v (.slice A11 (n_ + 1) c11)), (6, .v (.int .i64 (IntKind.i64.wrap (i + 1))))], []⟩ (by kernel_rfl) ?_
      -- again (TT)
      refine X.tellR [25] (R' := [(25, ⟨2, 1, .slice A11 (n_ + 1) c11, n_ + 1, (l_ ++ [(ks.getD ((i).toNat) 0)]).map (Value.int .i64)⟩)]) rfl ?_
      have e1 : IntKind.i64.wrap (i + 1) = i + 1 := wi64 (by omega) (by omega)
      have e0 : (i + 1).toNat = i.toNat + 1 := by omega
      exact X.again (hJ1 _ _ _ _ ⟨A11, c11, n_ + 1, l_ ++ [(ks.getD ((i).toNat) 0)], IntKind.i64.wrap (i + 1), rfl, rfl, rfl, ⟨by omega, by omega, by rw [e1, e0, filter_take_succ (by omega), if_pos (by assumption), ← hl], by simp [hn], by rw [e1]; omega⟩, rfl⟩ (by rw [e1]; omega))
    · -- slot 18: (ks.getD ((i).toNat) 0) != j is False
      replace h6 : (ks.getD ((i).toNat) 0) = j := by simpa using h6
      refine X.run 9 [0, 1, 4, 5, 6] [] (.ex .normal) [.loop J1, .blk 0, .seq (cA B58 [1, 1, 1])] ⟨27, [(0, .v (.slice A ks.length c)), (1, .v (.int .i64 j)), (4, .v (.slice none 0 0)), (5, .v (.slice B_ n_ c_)), (6, .v (.int .i64 (IntKind.i64.wrap (i + 1))))], []⟩ (by kernel_rfl) ?_
      -- again (TF)
      have e1 : IntKind.i64.wrap (i + 1) = i + 1 := wi64 (by omega) (by omega)
      have e0 : (i + 1).toNat = i.toNat + 1 := by omega
      exact X.again (hJ1 _ _ _ _ ⟨B_, c_, n_, l_, IntKind.i64.wrap (i + 1), rfl, rfl, rfl, ⟨by omega, by omega, by rw [e1, e0, filter_take_succ (by omega), if_neg (by simpa using (by assumption)), ← hl]; simp, hn, by rw [e1]; omega⟩, rfl⟩ (by rw [e1]; omega))
  · -- slot 10: decide (i < ((ks.length : Nat) : Int)) is False
    replace h2 : ¬ (i < ((ks.length : Nat) : Int)) := of_decide_eq_false h2
    refine X.run 13 [4] [] (.ex .ret) [] ⟨27, [(4, .v (.slice B_ n_ c_))], []⟩ (by kernel_rfl) ?_
    refine doneG (.inl rfl) [.slice B_ n_ c_] [25] (by kernel_rfl) rfl rfl (Ge.refl _ _) ?_
    -- end 1 (F)
    refine ⟨B_, c_, ?_, ?_⟩
    · rw [List.take_of_length_le (by omega)] at hl
      rw [← hl, ← hn]
      rfl
    · rw [List.take_of_length_le (by omega)] at hl
      rw [← hl, ← hn]

end Go.Proofs.YthpinlcfcgnilaaX
