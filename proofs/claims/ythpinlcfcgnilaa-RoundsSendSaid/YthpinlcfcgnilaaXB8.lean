/- leatref45.Sum, Queue, leatref04.Toward, Part: walked. Printed by a small program of this session. Conditions: none. -/
import Derived.Test.YthpinlcfcgnilaaProg
import Derived.KernelRfl
import Derived.Test.YthpinlcfcgnilaaXB7
namespace Go.Proofs.YthpinlcfcgnilaaX
open Go.RowKit
open Go.Proofs.YthpinlcfcgnilaaW.PrintLast Go.Proofs.YthpinlcfcgnilaaW.PrintWords
set_option linter.unusedVariables false
set_option linter.unusedSimpArgs false
set_option maxRecDepth 100000
theorem keep_eq {x lo hi : Int} (h : lo ≤ hi) : min (max x lo) hi = max lo (min x hi) := by omega
theorem pt_wrap {u f : Int} (hu : 0 ≤ u ∧ u ≤ 1073741824) (hf : 0 ≤ f ∧ f ≤ 1048576) : IntKind.i64.wrap (Int.tdiv (IntKind.i64.wrap (u * f)) 1048576) = pt u f := by
  have h1 : 0 ≤ u * f := Int.mul_nonneg hu.1 hf.1
  have h2 : u * f ≤ 1073741824 * 1048576 := Int.mul_le_mul hu.2 hf.2 hf.1 (by decide)
  rw [wi64 (x := u * f) (by omega) (by omega), wdiv_i64 (by omega) (by omega) (by omega)]
  rfl
/-- The windows, the shares of the first flows, one behind the other. -/
def gnW (mk : Bool) (m : Int) (ws hs : List Int) (j : Nat) : List Int := (List.range j).map (fun i => nW mk m (ws.getD i 0) (nH mk (hs.getD i 0)))
def gnH (mk : Bool) (hs : List Int) (j : Nat) : List Int := (List.range j).map (fun i => nH mk (hs.getD i 0))
theorem gnW_succ (mk : Bool) (m : Int) (ws hs : List Int) (j : Nat) : gnW mk m ws hs (j + 1) = gnW mk m ws hs j ++ [nW mk m (ws.getD j 0) (nH mk (hs.getD j 0))] := by simp [gnW, List.range_succ]
theorem gnH_succ (mk : Bool) (hs : List Int) (j : Nat) : gnH mk hs (j + 1) = gnH mk hs j ++ [nH mk (hs.getD j 0)] := by simp [gnH, List.range_succ]
theorem gnW_all (mk : Bool) (m : Int) (ws hs : List Int) (n : Nat) : gnW mk m ws hs n = nextW mk m ws hs n := by
  unfold gnW nextW mixW
  exact List.map_congr_left (fun i hi => by rw [if_pos (List.mem_range.mp hi)])
theorem gnH_all (mk : Bool) (hs : List Int) (n : Nat) : gnH mk hs n = nextH mk hs n := by
  unfold gnH nextH mixH
  exact List.map_congr_left (fun i hi => by rw [if_pos (List.mem_range.mp hi)])
theorem td16 (a : Int) : (0 ≤ a ∧ Int.tdiv a 16 = a / 16) ∨ (a < 0 ∧ Int.tdiv a 16 = -((-a) / 16)) := by
  rcases Int.lt_or_le a 0 with h | h
  · refine .inr ⟨h, ?_⟩
    have e : Int.tdiv a 16 = -Int.tdiv (-a) 16 := by rw [Int.neg_tdiv, Int.neg_neg]
    rw [e, Int.tdiv_eq_ediv_of_nonneg (by omega)]
  · exact .inl ⟨h, Int.tdiv_eq_ediv_of_nonneg h⟩
theorem div16 {a : Int} (ha : -1048576 ≤ a ∧ a ≤ 1048576) : IntKind.i64.wrap (Int.tdiv a 16) = Int.tdiv a 16 := by
  have := td16 a
  exact wi64 (by omega) (by omega)

/-- leat/leatref45.keep -/
noncomputable def B63 : Code := bodyOf Try.f63
set_option maxHeartbeats 1000000 in
theorem Keep_ok (x lo hi : Int) (G : Mem) (h : lo ≤ hi) : CallsG Try.prog 63 [.int .i64 x, .int .i64 lo, .int .i64 hi] G (fun _ v rows => v = .int .i64 (max lo (min x hi)) ∧ rows = []) := by
  refine CallsG.enter Try.func63 rfl rfl ?_
  intro w
  refine X.run 10 [2, 6, 9] [] (.ops (aA B63 [1, 0]) (oA B63 [1, 0] 3 :: lA B63 [1, 0] 4)) [.seq (cA B63 [1, 1])] ⟨12, [(2, .v (.int .i64 hi)), (6, .v (.int .i64 0)), (9, .v (.int .i64 (imax x lo)))], []⟩ (by kernel_rfl) ?_
  refine X.known 9 (y := .v (.int .i64 (max x lo))) rfl (congrArg (fun z_ => AV.v (.int .i64 z_)) (by simp only [imin_eq, imax_eq])) ?_
  refine X.run 2 [6, 11] [] (.ops (aA B63 [1, 0]) (oA B63 [1, 0] 5 :: lA B63 [1, 0] 6)) [.seq (cA B63 [1, 1])] ⟨12, [(6, .v (.int .i64 0)), (11, .v (.int .i64 (imin (max x lo) hi)))], []⟩ (by kernel_rfl) ?_
  refine X.known 11 (y := .v (.int .i64 (min (max x lo) hi))) rfl (congrArg (fun z_ => AV.v (.int .i64 z_)) (by simp only [imin_eq, imax_eq])) ?_
  refine X.run 4 [6] [] (.ex .ret) [] ⟨12, [(6, .v (.int .i64 (min (max x lo) hi)))], []⟩ (by kernel_rfl) ?_
  refine doneG (.inl rfl) [.int .i64 (min (max x lo) hi)] [] (by kernel_rfl) rfl rfl (Ge.refl _ _) ?_
  -- end 1 ()
  exact ⟨congrArg (Value.int .i64) (keep_eq h), rfl⟩

/-- leat/leatref01.Add -/
noncomputable def B84 : Code := bodyOf Try.f84
set_option maxHeartbeats 1000000 in
theorem RAdd_ok (a b : Int) (ha : (-1099511627776 ≤ a ∧ a ≤ 1099511627776)) (hb : (-1099511627776 ≤ b ∧ b ≤ 1099511627776)) (G : Mem) : CallsG Try.prog 84 [.int .i64 a, .int .i64 b] G (fun _ v rows => v = .int .i64 (a + b) ∧ rows = []) := by
  refine CallsG.enter Try.func84 rfl rfl ?_
  intro w
  refine X.run 11 [0, 1, 4, 7] [] (.ops (aA B84 [1, 0, 0]) (oA B84 [1, 0, 0] 3 :: lA B84 [1, 0, 0] 4)) [.seq (cA B84 [1, 0, 1]), .seq (cA B84 [1, 1])] ⟨24, [(0, .v (.int .i64 a)), (1, .v (.int .i64 b)), (4, .v (.int .i64 0)), (7, .v (.bool (decide (b > 0))))], []⟩ (by kernel_rfl) ?_
  refine X.split 7 rfl (fun h1 => ?_) (fun h1 => ?_)
  · -- slot 7: decide (b > 0) is True
    replace h1 : b > 0 := of_decide_eq_true h1
    refine X.run 3 [0, 1, 4, 7, 8, 10] [] (.ops (aA B84 [1, 0, 0]) (oA B84 [1, 0, 0] 6 :: lA B84 [1, 0, 0] 7)) [.seq (cA B84 [1, 0, 1]), .seq (cA B84 [1, 1])] ⟨24, [(0, .v (.int .i64 a)), (1, .v (.int .i64 b)), (4, .v (.int .i64 0)), (7, .v (.bool true)), (8, .v (.int .i64 a)), (10, .v (.int .i64 (IntKind.i64.wrap (9223372036854775807 - b))))], []⟩ (by kernel_rfl) ?_
    refine X.known 10 (y := .v (.int .i64 (9223372036854775807 - b))) rfl (congrArg (fun z_ => AV.v (.int .i64 z_)) (wi64 (by omega) (by omega))) ?_
    refine X.run 4 [0, 1, 4, 12] [] (.code (cA B84 [1, 0, 1])) [.seq (cA B84 [1, 1])] ⟨24, [(0, .v (.int .i64 a)), (1, .v (.int .i64 b)), (4, .v (.int .i64 0)), (12, .v (.bool (decide (a > 9223372036854775807 - b))))], []⟩ (by kernel_rfl) ?_
    refine X.isFalse 12 rfl (decide_eq_false (by omega)) ?_
    refine X.run 9 [0, 1, 4, 15] [] (.ops (aA B84 [1, 1, 0, 0]) (oA B84 [1, 1, 0, 0] 3 :: lA B84 [1, 1, 0, 0] 4)) [.seq (cA B84 [1, 1, 0, 1]), .seq (cA B84 [1, 1, 1])] ⟨24, [(0, .v (.int .i64 a)), (1, .v (.int .i64 b)), (4, .v (.int .i64 0)), (15, .v (.bool (decide (b < 0))))], []⟩ (by kernel_rfl) ?_
    refine X.split 15 rfl (fun h2 => ?_) (fun h2 => ?_)
    · -- slot 15: decide (b < 0) is True
      replace h2 : b < 0 := of_decide_eq_true h2
      refine X.run 3 [0, 1, 4, 15, 16, 18] [] (.ops (aA B84 [1, 1, 0, 0]) (oA B84 [1, 1, 0, 0] 6 :: lA B84 [1, 1, 0, 0] 7)) [.seq (cA B84 [1, 1, 0, 1]), .seq (cA B84 [1, 1, 1])] ⟨24, [(0, .v (.int .i64 a)), (1, .v (.int .i64 b)), (4, .v (.int .i64 0)), (15, .v (.bool true)), (16, .v (.int .i64 a)), (18, .v (.int .i64 (IntKind.i64.wrap ((-9223372036854775808) - b))))], []⟩ (by kernel_rfl) ?_
      refine X.known 18 (y := .v (.int .i64 ((-9223372036854775808) - b))) rfl (congrArg (fun z_ => AV.v (.int .i64 z_)) (wi64 (by omega) (by omega))) ?_
      refine X.run 4 [0, 1, 4, 20] [] (.code (cA B84 [1, 1, 0, 1])) [.seq (cA B84 [1, 1, 1])] ⟨24, [(0, .v (.int .i64 a)), (1, .v (.int .i64 b)), (4, .v (.int .i64 0)), (20, .v (.bool (decide (a < (-9223372036854775808) - b))))], []⟩ (by kernel_rfl) ?_
      refine X.isFalse 20 rfl (decide_eq_false (by omega)) ?_
      refine X.run 8 [4, 23] [] (.ops (aA B84 [1, 1, 1, 0]) (oA B84 [1, 1, 1, 0] 3 :: lA B84 [1, 1, 1, 0] 4)) [.seq (cA B84 [1, 1, 1, 1])] ⟨24, [(4, .v (.int .i64 0)), (23, .v (.int .i64 (IntKind.i64.wrap (a + b))))], []⟩ (by kernel_rfl) ?_
      refine X.known 23 (y := .v (.int .i64 (a + b))) rfl (congrArg (fun z_ => AV.v (.int .i64 z_)) (wi64 (by omega) (by omega))) ?_
      refine X.run 4 [4] [] (.ex .ret) [] ⟨24, [(4, .v (.int .i64 (a + b)))], []⟩ (by kernel_rfl) ?_
      refine doneG (.inl rfl) [.int .i64 (a + b)] [] (by kernel_rfl) rfl rfl (Ge.refl _ _) ?_
      -- end 1 (TT)
      exact ⟨rfl, rfl⟩
    · -- slot 15: decide (b < 0) is False
      replace h2 : ¬ (b < 0) := of_decide_eq_false h2
      refine X.run 15 [4, 23] [] (.ops (aA B84 [1, 1, 1, 0]) (oA B84 [1, 1, 1, 0] 3 :: lA B84 [1, 1, 1, 0] 4)) [.seq (cA B84 [1, 1, 1, 1])] ⟨24, [(4, .v (.int .i64 0)), (23, .v (.int .i64 (IntKind.i64.wrap (a + b))))], []⟩ (by kernel_rfl) ?_
      refine X.known 23 (y := .v (.int .i64 (a + b))) rfl (congrArg (fun z_ => AV.v (.int .i64 z_)) (wi64 (by omega) (by omega))) ?_
      refine X.run 4 [4] [] (.ex .ret) [] ⟨24, [(4, .v (.int .i64 (a + b)))], []⟩ (by kernel_rfl) ?_
      refine doneG (.inl rfl) [.int .i64 (a + b)] [] (by kernel_rfl) rfl rfl (Ge.refl _ _) ?_
      -- end 2 (TF)
      exact ⟨rfl, rfl⟩
  · -- slot 7: decide (b > 0) is False
    replace h1 : ¬ (b > 0) := of_decide_eq_false h1
    refine X.run 16 [0, 1, 4, 15] [] (.ops (aA B84 [1, 1, 0, 0]) (oA B84 [1, 1, 0, 0] 3 :: lA B84 [1, 1, 0, 0] 4)) [.seq (cA B84 [1, 1, 0, 1]), .seq (cA B84 [1, 1, 1])] ⟨24, [(0, .v (.int .i64 a)), (1, .v (.int .i64 b)), (4, .v (.int .i64 0)), (15, .v (.bool (decide (b < 0))))], []⟩ (by kernel_rfl) ?_
    refine X.split 15 rfl (fun h3 => ?_) (fun h3 => ?_)
    · -- slot 15: decide (b < 0) is True
      replace h3 : b < 0 := of_decide_eq_true h3
      refine X.run 3 [0, 1, 4, 15, 16, 18] [] (.ops (aA B84 [1, 1, 0, 0]) (oA B84 [1, 1, 0, 0] 6 :: lA B84 [1, 1, 0, 0] 7)) [.seq (cA B84 [1, 1, 0, 1]), .seq (cA B84 [1, 1, 1])] ⟨24, [(0, .v (.int .i64 a)), (1, .v (.int .i64 b)), (4, .v (.int .i64 0)), (15, .v (.bool true)), (16, .v (.int .i64 a)), (18, .v (.int .i64 (IntKind.i64.wrap ((-9223372036854775808) - b))))], []⟩ (by kernel_rfl) ?_
      refine X.known 18 (y := .v (.int .i64 ((-9223372036854775808) - b))) rfl (congrArg (fun z_ => AV.v (.int .i64 z_)) (wi64 (by omega) (by omega))) ?_
      refine X.run 4 [0, 1, 4, 20] [] (.code (cA B84 [1, 1, 0, 1])) [.seq (cA B84 [1, 1, 1])] ⟨24, [(0, .v (.int .i64 a)), (1, .v (.int .i64 b)), (4, .v (.int .i64 0)), (20, .v (.bool (decide (a < (-9223372036854775808) - b))))], []⟩ (by kernel_rfl) ?_
      refine X.isFalse 20 rfl (decide_eq_false (by omega)) ?_
      refine X.run 8 [4, 23] [] (.ops (aA B84 [1, 1, 1, 0]) (oA B84 [1, 1, 1, 0] 3 :: lA B84 [1, 1, 1, 0] 4)) [.seq (cA B84 [1, 1, 1, 1])] ⟨24, [(4, .v (.int .i64 0)), (23, .v (.int .i64 (IntKind.i64.wrap (a + b))))], []⟩ (by kernel_rfl) ?_
      refine X.known 23 (y := .v (.int .i64 (a + b))) rfl (congrArg (fun z_ => AV.v (.int .i64 z_)) (wi64 (by omega) (by omega))) ?_
      refine X.run 4 [4] [] (.ex .ret) [] ⟨24, [(4, .v (.int .i64 (a + b)))], []⟩ (by kernel_rfl) ?_
      refine doneG (.inl rfl) [.int .i64 (a + b)] [] (by kernel_rfl) rfl rfl (Ge.refl _ _) ?_
      -- end 3 (FT)
      exact ⟨rfl, rfl⟩
    · -- slot 15: decide (b < 0) is False
      replace h3 : ¬ (b < 0) := of_decide_eq_false h3
      refine X.run 15 [4, 23] [] (.ops (aA B84 [1, 1, 1, 0]) (oA B84 [1, 1, 1, 0] 3 :: lA B84 [1, 1, 1, 0] 4)) [.seq (cA B84 [1, 1, 1, 1])] ⟨24, [(4, .v (.int .i64 0)), (23, .v (.int .i64 (IntKind.i64.wrap (a + b))))], []⟩ (by kernel_rfl) ?_
      refine X.known 23 (y := .v (.int .i64 (a + b))) rfl (congrArg (fun z_ => AV.v (.int .i64 z_)) (wi64 (by omega) (by omega))) ?_
      refine X.run 4 [4] [] (.ex .ret) [] ⟨24, [(4, .v (.int .i64 (a + b)))], []⟩ (by kernel_rfl) ?_
      refine doneG (.inl rfl) [.int .i64 (a + b)] [] (by kernel_rfl) rfl rfl (Ge.refl _ _) ?_
      -- end 4 (FF)
      exact ⟨rfl, rfl⟩

/-- leat/leatref01.Sub -/
noncomputable def B87 : Code := bodyOf Try.f87
set_option maxHeartbeats 1000000 in
theorem RSub_ok (a b : Int) (ha : (-1099511627776 ≤ a ∧ a ≤ 1099511627776)) (hb : (-1099511627776 ≤ b ∧ b ≤ 1099511627776)) (G : Mem) : CallsG Try.prog 87 [.int .i64 a, .int .i64 b] G (fun _ v rows => v = .int .i64 (a - b) ∧ rows = []) := by
  refine CallsG.enter Try.func87 rfl rfl ?_
  intro w
  refine X.run 12 [0, 1, 4, 6] [] (.code (cA B87 [1, 0, 1])) [.seq (cA B87 [1, 1])] ⟨16, [(0, .v (.int .i64 a)), (1, .v (.int .i64 b)), (4, .v (.int .i64 0)), (6, .v (.bool (b == (-9223372036854775808))))], []⟩ (by kernel_rfl) ?_
  refine X.isFalse 6 rfl (by simp; omega) ?_
  refine X.run 8 [4, 12, 14] [] (.ops (aA B87 [1, 1, 0]) (oA B87 [1, 1, 0] 3 :: lA B87 [1, 1, 0] 4)) [.seq (cA B87 [1, 1, 1])] ⟨16, [(4, .v (.int .i64 0)), (12, .v (.int .i64 a)), (14, .v (.int .i64 (IntKind.i64.wrap (0 - b))))], []⟩ (by kernel_rfl) ?_
  refine X.known 14 (y := .v (.int .i64 (0 - b))) rfl (congrArg (fun z_ => AV.v (.int .i64 z_)) (wi64 (by omega) (by omega))) ?_
  refine X.callG (f := 84) (l := [.v (.int .i64 a), .v (.int .i64 (0 - b))]) [.int .i64 a, .int .i64 (0 - b)] 0 (by kernel_rfl) (by kernel_rfl) (by kernel_rfl) (RAdd_ok a (0 - b) (by omega) (by omega) _) ?_
  rintro v1 G1 rows1 hG1 ⟨rfl, rfl⟩
  refine X.run 4 [4] [] (.ex .ret) [] ⟨16, [(4, .v (.int .i64 (a + (0 - b))))], []⟩ (by kernel_rfl) ?_
  refine doneG (.inl rfl) [.int .i64 (a + (0 - b))] [] (by kernel_rfl) rfl rfl (hG1) ?_
  -- end 1 ()
  exact ⟨congrArg (Value.int .i64) (by omega), rfl⟩

/-- leat/leatref01.Div -/
noncomputable def B86 : Code := bodyOf Try.f86
set_option maxHeartbeats 1000000 in
theorem RDiv16_ok (a : Int) (ha : -1048576 ≤ a ∧ a ≤ 1048576) (G : Mem) : CallsG Try.prog 86 [.int .i64 a, .int .i64 16] G (fun _ v rows => v = .int .i64 (a / 16) ∧ rows = []) := by
  have htd_ := td16 a
  refine CallsG.enter Try.func86 rfl rfl ?_
  intro w
  refine X.run 30 [0, 1, 4, 15] [] (.ops (aA B86 [1, 1, 1, 0]) (oA B86 [1, 1, 1, 0] 3 :: lA B86 [1, 1, 1, 0] 4)) [.seq (cA B86 [1, 1, 1, 1])] ⟨33, [(0, .v (.int .i64 a)), (1, .v (.int .i64 16)), (4, .v (.int .i64 0)), (15, .v (.int .i64 (IntKind.i64.wrap (Int.tdiv a 16))))], []⟩ (by kernel_rfl) ?_
  refine X.known 15 (y := .v (.int .i64 (Int.tdiv a 16))) rfl (congrArg (fun z_ => AV.v (.int .i64 z_)) (div16 ha)) ?_
  refine X.run 9 [1, 4, 5, 16, 19] [] (.ops (aA B86 [1, 1, 1, 1, 0]) (oA B86 [1, 1, 1, 1, 0] 4 :: lA B86 [1, 1, 1, 1, 0] 5)) [.seq (cA B86 [1, 1, 1, 1, 1])] ⟨33, [(1, .v (.int .i64 16)), (4, .v (.int .i64 0)), (5, .v (.int .i64 (Int.tdiv a 16))), (16, .v (.int .i64 a)), (19, .v (.int .i64 (IntKind.i64.wrap ((Int.tdiv a 16) * 16))))], []⟩ (by kernel_rfl) ?_
  refine X.known 19 (y := .v (.int .i64 ((Int.tdiv a 16) * 16))) rfl (congrArg (fun z_ => AV.v (.int .i64 z_)) (wi64 (by omega) (by omega))) ?_
  refine X.run 1 [1, 4, 5, 20] [] (.ops (aA B86 [1, 1, 1, 1, 0]) (oA B86 [1, 1, 1, 1, 0] 5 :: lA B86 [1, 1, 1, 1, 0] 6)) [.seq (cA B86 [1, 1, 1, 1, 1])] ⟨33, [(1, .v (.int .i64 16)), (4, .v (.int .i64 0)), (5, .v (.int .i64 (Int.tdiv a 16))), (20, .v (.int .i64 (IntKind.i64.wrap (a - ((Int.tdiv a 16) * 16)))))], []⟩ (by kernel_rfl) ?_
  refine X.known 20 (y := .v (.int .i64 (a - ((Int.tdiv a 16) * 16)))) rfl (congrArg (fun z_ => AV.v (.int .i64 z_)) (wi64 (by omega) (by omega))) ?_
  refine X.run 9 [1, 4, 5, 6, 23] [] (.ops (aA B86 [1, 1, 1, 1, 1, 0, 0]) (oA B86 [1, 1, 1, 1, 1, 0, 0] 3 :: lA B86 [1, 1, 1, 1, 1, 0, 0] 4)) [.seq (cA B86 [1, 1, 1, 1, 1, 0, 1]), .seq (cA B86 [1, 1, 1, 1, 1, 1])] ⟨33, [(1, .v (.int .i64 16)), (4, .v (.int .i64 0)), (5, .v (.int .i64 (Int.tdiv a 16))), (6, .v (.int .i64 (a - ((Int.tdiv a 16) * 16)))), (23, .v (.bool ((a - ((Int.tdiv a 16) * 16)) != 0)))], []⟩ (by kernel_rfl) ?_
  refine X.split 23 rfl (fun h1 => ?_) (fun h1 => ?_)
  · -- slot 23: (a - ((Int.tdiv a 16) * 16)) != 0 is True
    replace h1 : (a - ((Int.tdiv a 16) * 16)) ≠ 0 := by simpa using h1
    refine X.run 8 [4, 5, 29] [] (.code (cA B86 [1, 1, 1, 1, 1, 0, 1])) [.seq (cA B86 [1, 1, 1, 1, 1, 1])] ⟨33, [(4, .v (.int .i64 0)), (5, .v (.int .i64 (Int.tdiv a 16))), (29, .v (.bool (!((decide (a - ((Int.tdiv a 16) * 16) < 0)) == false))))], []⟩ (by kernel_rfl) ?_
    refine X.split 29 rfl (fun h2 => ?_) (fun h2 => ?_)
    · -- slot 29: !((decide (a - ((Int.tdiv a 16) * 16) < 0)) == false) is True
      replace h2 : ((decide (a - ((Int.tdiv a 16) * 16) < 0)) == false) = false := by first | (simpa using h2; done) | (have h_ := congrArg (fun b_ => !b_) h2; simpa only [Bool.not_not, Bool.not_true, Bool.not_false] using h_)
      replace h2 : (decide (a - ((Int.tdiv a 16) * 16) < 0)) = true := by revert h2; generalize (decide (a - ((Int.tdiv a 16) * 16) < 0)) = b_; revert b_; decide
      replace h2 : a - ((Int.tdiv a 16) * 16) < 0 := of_decide_eq_true h2
      refine X.run 5 [4, 5, 31] [] (.ops (aA B86 [1, 1, 1, 1, 1, 0, 1, 0, 0]) (oA B86 [1, 1, 1, 1, 1, 0, 1, 0, 0] 2 :: lA B86 [1, 1, 1, 1, 1, 0, 1, 0, 0] 3)) [.seq (cA B86 [1, 1, 1, 1, 1, 0, 1, 0, 1]), .seq (cA B86 [1, 1, 1, 1, 1, 1])] ⟨33, [(4, .v (.int .i64 0)), (5, .v (.int .i64 (Int.tdiv a 16))), (31, .v (.int .i64 (IntKind.i64.wrap ((Int.tdiv a 16) - 1))))], []⟩ (by kernel_rfl) ?_
      refine X.known 31 (y := .v (.int .i64 ((Int.tdiv a 16) - 1))) rfl (congrArg (fun z_ => AV.v (.int .i64 z_)) (wi64 (by omega) (by omega))) ?_
      refine X.run 5 [4] [] (.ex .ret) [] ⟨33, [(4, .v (.int .i64 ((Int.tdiv a 16) - 1)))], []⟩ (by kernel_rfl) ?_
      refine doneG (.inl rfl) [.int .i64 ((Int.tdiv a 16) - 1)] [] (by kernel_rfl) rfl rfl (Ge.refl _ _) ?_
      -- end 1 (TT)
      exact ⟨congrArg (Value.int .i64) (by omega), rfl⟩
    · -- slot 29: !((decide (a - ((Int.tdiv a 16) * 16) < 0)) == false) is False
      replace h2 : ((decide (a - ((Int.tdiv a 16) * 16) < 0)) == false) = true := by first | (simpa using h2; done) | (have h_ := congrArg (fun b_ => !b_) h2; simpa only [Bool.not_not, Bool.not_true, Bool.not_false] using h_)
      replace h2 : (decide (a - ((Int.tdiv a 16) * 16) < 0)) = false := by revert h2; generalize (decide (a - ((Int.tdiv a 16) * 16) < 0)) = b_; revert b_; decide
      replace h2 : ¬ (a - ((Int.tdiv a 16) * 16) < 0) := of_decide_eq_false h2
      refine X.run 10 [4] [] (.ex .ret) [] ⟨33, [(4, .v (.int .i64 (Int.tdiv a 16)))], []⟩ (by kernel_rfl) ?_
      refine doneG (.inl rfl) [.int .i64 (Int.tdiv a 16)] [] (by kernel_rfl) rfl rfl (Ge.refl _ _) ?_
      -- end 2 (TF)
      exact ⟨congrArg (Value.int .i64) (by omega), rfl⟩
  · -- slot 23: (a - ((Int.tdiv a 16) * 16)) != 0 is False
    replace h1 : (a - ((Int.tdiv a 16) * 16)) = 0 := by simpa using h1
    refine X.run 18 [4] [] (.ex .ret) [] ⟨33, [(4, .v (.int .i64 (Int.tdiv a 16)))], []⟩ (by kernel_rfl) ?_
    refine doneG (.inl rfl) [.int .i64 (Int.tdiv a 16)] [] (by kernel_rfl) rfl rfl (Ge.refl _ _) ?_
    -- end 3 (F)
    exact ⟨congrArg (Value.int .i64) (by omega), rfl⟩

/-- leat/leatref04.Toward -/
noncomputable def B64 : Code := bodyOf Try.f64
set_option maxHeartbeats 1000000 in
theorem RToward_ok (x y : Int) (hx : 0 ≤ x ∧ x ≤ 1048576) (hy : 0 ≤ y ∧ y ≤ 1048576) (G : Mem) : CallsG Try.prog 64 [.int .i64 x, .int .i64 y, .int .i64 4] G (fun _ v rows => v = .int .i64 (tw x y) ∧ rows = []) := by
  refine CallsG.enter Try.func64 rfl rfl ?_
  intro w
  refine X.run 17 [0, 1, 2, 6, 7, 8] [] (.code (cA B64 [1, 1, 0, 1, 0])) [.blk 0, .seq (cA B64 [1, 1, 1])] ⟨25, [(0, .v (.int .i64 x)), (1, .v (.int .i64 y)), (2, .v (.int .i64 4)), (6, .v (.int .i64 0)), (7, .v (.int .i64 1)), (8, .v (.int .i64 0))], []⟩ (by kernel_rfl) ?_
  refine X.rounds 6 ?_
  refine RX.succ fun J1 hJ1 => ?_
  refine X.run 27 [0, 1, 2, 6, 7, 8, 9, 10, 11, 12, 13, 14, 15, 16, 17] [] (.ex .normal) [.loop J1, .blk 0, .seq (cA B64 [1, 1, 1])] ⟨25, [(0, .v (.int .i64 x)), (1, .v (.int .i64 y)), (2, .v (.int .i64 4)), (6, .v (.int .i64 0)), (7, .v (.int .i64 2)), (8, .v (.int .i64 1)), (9, .v (.int .i64 0)), (10, .v (.int .i64 4)), (11, .v (.int .i64 4)), (12, .v (.int .i64 4)), (13, .v (.bool true)), (14, .v (.int .i64 0)), (15, .v (.int .i64 1)), (16, .v (.int .i64 1)), (17, .v (.int .i64 2))], []⟩ (by kernel_rfl) ?_
  refine X.again (hJ1 _ _ _ ?_)
  refine RX.succ fun J2 hJ2 => ?_
  refine X.run 27 [0, 1, 2, 6, 7, 8, 9, 10, 11, 12, 13, 14, 15, 16, 17] [] (.ex .normal) [.loop J2, .blk 0, .seq (cA B64 [1, 1, 1])] ⟨25, [(0, .v (.int .i64 x)), (1, .v (.int .i64 y)), (2, .v (.int .i64 4)), (6, .v (.int .i64 0)), (7, .v (.int .i64 4)), (8, .v (.int .i64 2)), (9, .v (.int .i64 1)), (10, .v (.int .i64 4)), (11, .v (.int .i64 4)), (12, .v (.int .i64 4)), (13, .v (.bool true)), (14, .v (.int .i64 1)), (15, .v (.int .i64 2)), (16, .v (.int .i64 2)), (17, .v (.int .i64 4))], []⟩ (by kernel_rfl) ?_
  refine X.again (hJ2 _ _ _ ?_)
  refine RX.succ fun J3 hJ3 => ?_
  refine X.run 27 [0, 1, 2, 6, 7, 8, 9, 10, 11, 12, 13, 14, 15, 16, 17] [] (.ex .normal) [.loop J3, .blk 0, .seq (cA B64 [1, 1, 1])] ⟨25, [(0, .v (.int .i64 x)), (1, .v (.int .i64 y)), (2, .v (.int .i64 4)), (6, .v (.int .i64 0)), (7, .v (.int .i64 8)), (8, .v (.int .i64 3)), (9, .v (.int .i64 2)), (10, .v (.int .i64 4)), (11, .v (.int .i64 4)), (12, .v (.int .i64 4)), (13, .v (.bool true)), (14, .v (.int .i64 2)), (15, .v (.int .i64 3)), (16, .v (.int .i64 4)), (17, .v (.int .i64 8))], []⟩ (by kernel_rfl) ?_
  refine X.again (hJ3 _ _ _ ?_)
  refine RX.succ fun J4 hJ4 => ?_
  refine X.run 27 [0, 1, 2, 6, 7, 8, 9, 10, 11, 12, 13, 14, 15, 16, 17] [] (.ex .normal) [.loop J4, .blk 0, .seq (cA B64 [1, 1, 1])] ⟨25, [(0, .v (.int .i64 x)), (1, .v (.int .i64 y)), (2, .v (.int .i64 4)), (6, .v (.int .i64 0)), (7, .v (.int .i64 16)), (8, .v (.int .i64 4)), (9, .v (.int .i64 3)), (10, .v (.int .i64 4)), (11, .v (.int .i64 4)), (12, .v (.int .i64 4)), (13, .v (.bool true)), (14, .v (.int .i64 3)), (15, .v (.int .i64 4)), (16, .v (.int .i64 8)), (17, .v (.int .i64 16))], []⟩ (by kernel_rfl) ?_
  refine X.again (hJ4 _ _ _ ?_)
  refine RX.succ fun J5 hJ5 => ?_
  refine X.run 21 [6, 7, 18, 19, 20] [] (.ops (aA B64 [1, 1, 1, 0]) (oA B64 [1, 1, 1, 0] 3 :: lA B64 [1, 1, 1, 0] 4)) [.seq (cA B64 [1, 1, 1, 1])] ⟨25, [(6, .v (.int .i64 0)), (7, .v (.int .i64 16)), (18, .v (.int .i64 x)), (19, .v (.int .i64 y)), (20, .v (.int .i64 x))], []⟩ (by kernel_rfl) ?_
  refine X.callG (f := 87) (l := [.v (.int .i64 y), .v (.int .i64 x)]) [.int .i64 y, .int .i64 x] 0 (by kernel_rfl) (by kernel_rfl) (by kernel_rfl) (RSub_ok y x (by omega) (by omega) _) ?_
  rintro v6 G6 rows6 hG6 ⟨rfl, rfl⟩
  refine X.run 1 [6, 18, 21, 22] [] (.ops (aA B64 [1, 1, 1, 0]) (oA B64 [1, 1, 1, 0] 5 :: lA B64 [1, 1, 1, 0] 6)) [.seq (cA B64 [1, 1, 1, 1])] ⟨25, [(6, .v (.int .i64 0)), (18, .v (.int .i64 x)), (21, .v (.int .i64 (y - x))), (22, .v (.int .i64 16))], []⟩ (by kernel_rfl) ?_
  refine X.callG (f := 86) (l := [.v (.int .i64 (y - x)), .v (.int .i64 16)]) [.int .i64 (y - x), .int .i64 16] 0 (by kernel_rfl) (by kernel_rfl) (by kernel_rfl) (RDiv16_ok (y - x) (by omega) _) ?_
  rintro v7 G7 rows7 hG7 ⟨rfl, rfl⟩
  refine X.run 0 [6, 18, 23] [] (.ops (aA B64 [1, 1, 1, 0]) (oA B64 [1, 1, 1, 0] 6 :: lA B64 [1, 1, 1, 0] 7)) [.seq (cA B64 [1, 1, 1, 1])] ⟨25, [(6, .v (.int .i64 0)), (18, .v (.int .i64 x)), (23, .v (.int .i64 ((y - x) / 16)))], []⟩ (by kernel_rfl) ?_
  refine X.callG (f := 84) (l := [.v (.int .i64 x), .v (.int .i64 ((y - x) / 16))]) [.int .i64 x, .int .i64 ((y - x) / 16)] 0 (by kernel_rfl) (by kernel_rfl) (by kernel_rfl) (RAdd_ok x ((y - x) / 16) (by omega) (by omega) _) ?_
  rintro v8 G8 rows8 hG8 ⟨rfl, rfl⟩
  refine X.run 4 [6] [] (.ex .ret) [] ⟨25, [(6, .v (.int .i64 (x + ((y - x) / 16))))], []⟩ (by kernel_rfl) ?_
  refine doneG (.inl rfl) [.int .i64 (x + ((y - x) / 16))] [] (by kernel_rfl) rfl rfl (((hG6.trans hG7).trans hG8)) ?_
  -- end 1 ()
  exact ⟨rfl, rfl⟩

/-- leat/leatref04.Share -/
noncomputable def B88 : Code := bodyOf Try.f88
set_option maxHeartbeats 1000000 in
theorem RShare_ok (f : Int) (hf : 0 ≤ f ∧ f ≤ 1048576) (G : Mem) : CallsG Try.prog 88 [.int .i64 f] G (fun _ v rows => v = .int .i64 f ∧ rows = []) := by
  refine CallsG.enter Try.func88 rfl rfl ?_
  intro w
  refine X.run 9 [2, 4] [] (.ops (aA B88 [1, 0]) (oA B88 [1, 0] 2 :: lA B88 [1, 0] 3)) [.seq (cA B88 [1, 1])] ⟨6, [(2, .v (.int .i64 0)), (4, .v (.int .i64 (imax f 0)))], []⟩ (by kernel_rfl) ?_
  refine X.known 4 (y := .v (.int .i64 (max f 0))) rfl (congrArg (fun z_ => AV.v (.int .i64 z_)) (by simp only [imin_eq, imax_eq])) ?_
  refine X.run 1 [2, 5] [] (.ops (aA B88 [1, 0]) (oA B88 [1, 0] 3 :: lA B88 [1, 0] 4)) [.seq (cA B88 [1, 1])] ⟨6, [(2, .v (.int .i64 0)), (5, .v (.int .i64 (imin (max f 0) 1048576)))], []⟩ (by kernel_rfl) ?_
  refine X.known 5 (y := .v (.int .i64 (min (max f 0) 1048576))) rfl (congrArg (fun z_ => AV.v (.int .i64 z_)) (by simp only [imin_eq, imax_eq])) ?_
  refine X.run 4 [2] [] (.ex .ret) [] ⟨6, [(2, .v (.int .i64 (min (max f 0) 1048576)))], []⟩ (by kernel_rfl) ?_
  refine doneG (.inl rfl) [.int .i64 (min (max f 0) 1048576)] [] (by kernel_rfl) rfl rfl (Ge.refl _ _) ?_
  -- end 1 ()
  exact ⟨congrArg (Value.int .i64) (by omega), rfl⟩

/-- leat/leatref04.quo -/
noncomputable def B89 : Code := bodyOf Try.f89
set_option maxHeartbeats 1000000 in
theorem RQuo_ok (u f : Int) (hw : 0 ≤ u ∧ u ≤ 1073741824) (hf : 0 ≤ f ∧ f ≤ 1048576) (G : Mem) : CallsG Try.prog 89 [.int .i64 u, .int .i64 f, .int .i64 1048576] G (fun _ v rows => v = .int .i64 (pt u f) ∧ rows = []) := by
  refine CallsG.enter Try.func89 rfl rfl ?_
  intro w
  refine X.run 11 [0, 1, 2, 6, 11] [] (.ops (aA B89 [1, 0, 0]) (oA B89 [1, 0, 0] 3 :: lA B89 [1, 0, 0] 4)) [.seq (cA B89 [1, 0, 1]), .seq (cA B89 [1, 1])] ⟨28, [(0, .v (.int .i64 u)), (1, .v (.int .i64 f)), (2, .v (.int .i64 1048576)), (6, .v (.int .i64 0)), (11, .v (.bool (decide (u < 4398046511104))))], []⟩ (by kernel_rfl) ?_
  refine X.isTrue 11 rfl (decide_eq_true (by omega)) ?_
  refine X.run 5 [0, 1, 2, 6, 14] [] (.code (cA B89 [1, 0, 1])) [.seq (cA B89 [1, 1])] ⟨28, [(0, .v (.int .i64 u)), (1, .v (.int .i64 f)), (2, .v (.int .i64 1048576)), (6, .v (.int .i64 0)), (14, .v (.bool (decide (f ≤ 1048576))))], []⟩ (by kernel_rfl) ?_
  refine X.isTrue 14 rfl (decide_eq_true (by omega)) ?_
  refine X.run 8 [0, 1, 2, 6, 19] [] (.ops (aA B89 [1, 0, 1, 0, 0]) (oA B89 [1, 0, 1, 0, 0] 5 :: lA B89 [1, 0, 1, 0, 0] 6)) [.seq (cA B89 [1, 0, 1, 0, 1]), .seq (cA B89 [1, 1])] ⟨28, [(0, .v (.int .i64 u)), (1, .v (.int .i64 f)), (2, .v (.int .i64 1048576)), (6, .v (.int .i64 0)), (19, .v (.int .i64 (IntKind.i64.wrap (Int.tdiv (IntKind.i64.wrap (u * f)) 1048576))))], []⟩ (by kernel_rfl) ?_
  refine X.known 19 (y := .v (.int .i64 (pt u f))) rfl (congrArg (fun z_ => AV.v (.int .i64 z_)) (pt_wrap hw hf)) ?_
  refine X.run 5 [6] [] (.ex .ret) [] ⟨28, [(6, .v (.int .i64 (pt u f)))], []⟩ (by kernel_rfl) ?_
  refine doneG (.inl rfl) [.int .i64 (pt u f)] [] (by kernel_rfl) rfl rfl (Ge.refl _ _) ?_
  -- end 1 ()
  exact ⟨rfl, rfl⟩

/-- leat/leatref04.Part -/
noncomputable def B65 : Code := bodyOf Try.f65
set_option maxHeartbeats 1000000 in
theorem RPart_ok (u f : Int) (hw : 0 ≤ u ∧ u ≤ 1073741824) (hf : 0 ≤ f ∧ f ≤ 1048576) (G : Mem) : CallsG Try.prog 65 [.int .i64 u, .int .i64 f] G (fun _ v rows => v = .int .i64 (pt u f) ∧ rows = []) := by
  refine CallsG.enter Try.func65 rfl rfl ?_
  intro w
  refine X.run 8 [0, 1, 4, 7] [] (.ops (aA B65 [1, 0]) (oA B65 [1, 0] 1 :: lA B65 [1, 0] 2)) [.seq (cA B65 [1, 1])] ⟨28, [(0, .v (.int .i64 u)), (1, .v (.int .i64 f)), (4, .v (.int .i64 0)), (7, .v (.int .i64 f))], []⟩ (by kernel_rfl) ?_
  refine X.callG (f := 88) (l := [.v (.int .i64 f)]) [.int .i64 f] 0 (by kernel_rfl) (by kernel_rfl) (by kernel_rfl) (RShare_ok f (by omega) _) ?_
  rintro v1 G1 rows1 hG1 ⟨rfl, rfl⟩
  refine X.run 10 [0, 1, 4, 10] [] (.code (cA B65 [1, 1, 0, 1])) [.seq (cA B65 [1, 1, 1])] ⟨28, [(0, .v (.int .i64 u)), (1, .v (.int .i64 f)), (4, .v (.int .i64 0)), (10, .v (.bool (decide (u ≥ 0))))], []⟩ (by kernel_rfl) ?_
  refine X.isTrue 10 rfl (decide_eq_true (by omega)) ?_
  refine X.run 5 [0, 1, 4, 11, 12] [] (.ops (aA B65 [1, 1, 0, 1, 0, 0]) (oA B65 [1, 1, 0, 1, 0, 0] 2 :: lA B65 [1, 1, 0, 1, 0, 0] 3)) [.seq (cA B65 [1, 1, 0, 1, 0, 1]), .seq (cA B65 [1, 1, 1])] ⟨28, [(0, .v (.int .i64 u)), (1, .v (.int .i64 f)), (4, .v (.int .i64 0)), (11, .v (.int .i64 u)), (12, .v (.int .i64 f))], []⟩ (by kernel_rfl) ?_
  refine X.callG (f := 89) (l := [.v (.int .i64 u), .v (.int .i64 f), .v (.int .i64 1048576)]) [.int .i64 u, .int .i64 f, .int .i64 1048576] 0 (by kernel_rfl) (by kernel_rfl) (by kernel_rfl) (RQuo_ok u f (by omega) (by omega) _) ?_
  rintro v2 G2 rows2 hG2 ⟨rfl, rfl⟩
  refine X.run 5 [4] [] (.ex .ret) [] ⟨28, [(4, .v (.int .i64 (pt u f)))], []⟩ (by kernel_rfl) ?_
  refine doneG (.inl rfl) [.int .i64 (pt u f)] [] (by kernel_rfl) rfl rfl ((hG1.trans hG2)) ?_
  -- end 1 ()
  exact ⟨rfl, rfl⟩

/-- leat/leatref45.Sum -/
noncomputable def B36 : Code := bodyOf Try.f36
set_option maxHeartbeats 1000000 in
theorem RSum_ok (A B : Option Addr) (ca cb n : Nat) (ms p st : Int) (ws hs : List Int) (G : Mem) (hx : rowAt (D.int .i64) G A ws) (hy : rowAt (D.int .i64) G B hs) (hwn : ws.length = n) (hhn : hs.length = n) (hxc : n ≤ ca) (hyc : n ≤ cb) (hxm : ca ≤ maxLen) (hym : cb ≤ maxLen) (hb : ∀ x ∈ ws, 0 ≤ x ∧ x ≤ 1073741824) (h256 : n ≤ 256) : CallsG Try.prog 36 [.agg #[.int .i64 ms, .int .i64 p, .int .i64 st, .slice A n ca, .slice B n cb]] G (fun _ v rows => v = .int .i64 (sumI ws) ∧ rows = []) := by
  simp only [maxLen] at hxm hym
  refine CallsG.enter Try.func36 rfl rfl ?_
  intro w
  refine X.run 18 [1, 2, 3, 4] [1] (.code (cA B36 [1, 1, 0, 1, 0])) [.blk 0, .seq (cA B36 [1, 1, 1])] ⟨20, [(1, .own 1 0), (2, .v (.int .i64 0)), (3, .v (.int .i64 0)), (4, .v (.int .i64 0))], [(1, ⟨71, [.v (.int .i64 ms), .v (.int .i64 p), .v (.int .i64 st), .v (.slice A n ca), .v (.slice B n cb)]⟩)]⟩ (by kernel_rfl) ?_
  refine X.loopJ (fun m s R' G' => ∃ (q i : Int), s = ⟨20, [(1, .own 1 0), (2, .v (.int .i64 0)), (3, .v (.int .i64 q)), (4, .v (.int .i64 i))], [(1, ⟨71, [.v (.int .i64 ms), .v (.int .i64 p), .v (.int .i64 st), .v (.slice A n ca), .v (.slice B n cb)]⟩)]⟩ ∧ R' = [] ∧ G = G' ∧ (0 ≤ i ∧ i ≤ (n : Int) ∧ q = sumI (ws.take i.toNat) ∧ 0 ≤ q ∧ q ≤ i * 1073741824) ∧ m = ((n : Int) - i).toNat) _ ⟨0, 0, rfl, rfl, rfl, ⟨by omega, by omega, by simp [sumI], by omega, by omega⟩, rfl⟩ ?_
  rintro m1 s1 R1 G1 ⟨q, i, rfl, rfl, rfl, hF1, rfl⟩ J1 hJ1
  obtain ⟨hi0, hi1, hq, hq0, hq1⟩ := hF1
  refine X.run 10 [1, 2, 3, 4, 9] [1] (.code (cA B36 [1, 1, 0, 1, 0, 0, 0, 1])) [.seq (cA B36 [1, 1, 0, 1, 0, 0, 1]), .loop J1, .blk 0, .seq (cA B36 [1, 1, 1])] ⟨20, [(1, .own 1 0), (2, .v (.int .i64 0)), (3, .v (.int .i64 q)), (4, .v (.int .i64 i)), (9, .v (.bool (decide (i < ((n : Nat) : Int)))))], [(1, ⟨71, [.v (.int .i64 ms), .v (.int .i64 p), .v (.int .i64 st), .v (.slice A n ca), .v (.slice B n cb)]⟩)]⟩ (by kernel_rfl) ?_
  refine X.split 9 rfl (fun h2 => ?_) (fun h2 => ?_)
  · -- slot 9: decide (i < ((n : Nat) : Int)) is True
    replace h2 : i < ((n : Nat) : Int) := of_decide_eq_true h2
    have hbi_ := hb _ (getD_memI (xs := ws) (i := i.toNat) (by omega))
    refine X.run 10 [1, 2, 3, 4, 12, 14, 15] [1] (.ops (aA B36 [1, 1, 0, 1, 0, 0, 1, 0, 0]) (oA B36 [1, 1, 0, 1, 0, 0, 1, 0, 0] 4 :: lA B36 [1, 1, 0, 1, 0, 0, 1, 0, 0] 5)) [.blk 1, .seq (cA B36 [1, 1, 0, 1, 0, 0, 1, 1]), .loop J1, .blk 0, .seq (cA B36 [1, 1, 1])] ⟨20, [(1, .own 1 0), (2, .v (.int .i64 0)), (3, .v (.int .i64 q)), (4, .v (.int .i64 i)), (12, .v (.int .i64 q)), (14, .v (.slice A n ca)), (15, .v (.int .i64 i))], [(1, ⟨71, [.v (.int .i64 ms), .v (.int .i64 p), .v (.int .i64 st), .v (.slice A n ca), .v (.slice B n cb)]⟩)]⟩ (by kernel_rfl) ?_
    have b3 : (0 : Int) ≤ i := by omega
    have b4 : i < ((n : Nat) : Int) := by omega
    refine X.index (t := 22) (e := 2) (sz := 1) (A := A) (n := n) (c := ca) (ki := .i64) (i := i) (x := .tmp 14) (ix := .tmp 15) (by kernel_rfl) (by kernel_rfl) (by kernel_rfl) (by kernel_rfl) (by kernel_rfl) (by kernel_rfl) b3 b4 (fun _ _ => rowAt.so hx (by omega)) ?_
    obtain ⟨at5, lo5, hi5⟩ := At.int [] hx ((i).toNat) (by omega)
    simp only [IntKind.lo, IntKind.hi] at lo5 hi5
    refine X.run 0 [1, 2, 3, 4, 12, 16] [1] (.ops (aA B36 [1, 1, 0, 1, 0, 0, 1, 0, 0]) (oA B36 [1, 1, 0, 1, 0, 0, 1, 0, 0] 5 :: lA B36 [1, 1, 0, 1, 0, 0, 1, 0, 0] 6)) [.blk 1, .seq (cA B36 [1, 1, 0, 1, 0, 0, 1, 1]), .loop J1, .blk 0, .seq (cA B36 [1, 1, 1])] ⟨20, [(1, .own 1 0), (2, .v (.int .i64 0)), (3, .v (.int .i64 q)), (4, .v (.int .i64 i)), (12, .v (.int .i64 q)), (16, .v (elt A ((i).toNat * 1)))], [(1, ⟨71, [.v (.int .i64 ms), .v (.int .i64 p), .v (.int .i64 st), .v (.slice A n ca), .v (.slice B n cb)]⟩)]⟩ (by kernel_rfl) ?_
    refine X.load (t := 2) (A := A) (j := (i).toNat * 1) (x := .tmp 16) (z := .int .i64 (ws.getD ((i).toNat) 0)) [.int .i64 (ws.getD ((i).toNat) 0)] (by kernel_rfl) (by kernel_rfl) at5 (by kernel_rfl) (by kernel_rfl) ?_
    refine X.run 1 [1, 2, 3, 4, 18] [1] (.ops (aA B36 [1, 1, 0, 1, 0, 0, 1, 0, 0]) (oA B36 [1, 1, 0, 1, 0, 0, 1, 0, 0] 7 :: lA B36 [1, 1, 0, 1, 0, 0, 1, 0, 0] 8)) [.blk 1, .seq (cA B36 [1, 1, 0, 1, 0, 0, 1, 1]), .loop J1, .blk 0, .seq (cA B36 [1, 1, 1])] ⟨20, [(1, .own 1 0), (2, .v (.int .i64 0)), (3, .v (.int .i64 q)), (4, .v (.int .i64 i)), (18, .v (.int .i64 (IntKind.i64.wrap (q + (ws.getD ((i).toNat) 0)))))], [(1, ⟨71, [.v (.int .i64 ms), .v (.int .i64 p), .v (.int .i64 st), .v (.slice A n ca), .v (.slice B n cb)]⟩)]⟩ (by kernel_rfl) ?_
    refine X.known 18 (y := .v (.int .i64 (q + (ws.getD ((i).toNat) 0)))) rfl (congrArg (fun z_ => AV.v (.int .i64 z_)) (wi64 (by omega) (by omega))) ?_
    refine X.run 9 [1, 2, 3, 4] [1] (.ex .normal) [.loop J1, .blk 0, .seq (cA B36 [1, 1, 1])] ⟨20, [(1, .own 1 0), (2, .v (.int .i64 0)), (3, .v (.int .i64 (q + (ws.getD ((i).toNat) 0)))), (4, .v (.int .i64 (IntKind.i64.wrap (i + 1))))], [(1, ⟨71, [.v (.int .i64 ms), .v (.int .i64 p), .v (.int .i64 st), .v (.slice A n ca), .v (.slice B n cb)]⟩)]⟩ (by kernel_rfl) ?_
    -- again (T)
    have e1 : IntKind.i64.wrap (i + 1) = i + 1 := wi64 (by omega) (by omega)
    have e0 : (i + 1).toNat = i.toNat + 1 := by omega
    exact X.again (hJ1 _ _ _ _ ⟨q + (ws.getD ((i).toNat) 0), IntKind.i64.wrap (i + 1), rfl, rfl, rfl, ⟨by omega, by omega, by rw [e1, e0, sumI_take (by omega), ← hq], by omega, by omega⟩, rfl⟩ (by rw [e1]; omega))
  · -- slot 9: decide (i < ((n : Nat) : Int)) is False
    replace h2 : ¬ (i < ((n : Nat) : Int)) := of_decide_eq_false h2
    refine X.run 13 [2] [] (.ex .ret) [] ⟨20, [(2, .v (.int .i64 q))], []⟩ (by kernel_rfl) ?_
    refine doneG (.inl rfl) [.int .i64 q] [] (by kernel_rfl) rfl rfl (Ge.refl _ _) ?_
    -- end 1 (F)
    rw [List.take_of_length_le (by omega)] at hq
    exact ⟨by rw [hq]; rfl, rfl⟩

/-- leat/leatref45.Queue -/
noncomputable def B35 : Code := bodyOf Try.f35
set_option maxHeartbeats 1000000 in
theorem RQueue_ok (A B : Option Addr) (ca cb n : Nat) (ms p st : Int) (ws hs : List Int) (G : Mem) (hx : rowAt (D.int .i64) G A ws) (hy : rowAt (D.int .i64) G B hs) (hwn : ws.length = n) (hhn : hs.length = n) (hxc : n ≤ ca) (hyc : n ≤ cb) (hxm : ca ≤ maxLen) (hym : cb ≤ maxLen) (hb : ∀ x ∈ ws, 0 ≤ x ∧ x ≤ 1073741824) (h256 : n ≤ 256) (hp : 0 ≤ p ∧ p ≤ 1073741824) : CallsG Try.prog 35 [.agg #[.int .i64 ms, .int .i64 p, .int .i64 st, .slice A n ca, .slice B n cb]] G (fun _ v rows => v = .int .i64 (quI p ws) ∧ rows = []) := by
  simp only [maxLen] at hxm hym
  have hsb_ := sumI_bounds hb
  refine CallsG.enter Try.func35 rfl rfl ?_
  intro w
  refine X.run 8 [1, 2] [1] (.code (cA B35 [1, 0, 0])) [.seq (cA B35 [1, 0, 1]), .seq (cA B35 [1, 1])] ⟨13, [(1, .own 1 0), (2, .v (.int .i64 0))], [(1, ⟨71, [.v (.int .i64 ms), .v (.int .i64 p), .v (.int .i64 st), .v (.slice A n ca), .v (.slice B n cb)]⟩)]⟩ (by kernel_rfl) ?_
  have hx_d1 := hx
  have hy_d1 := hy
  refine XD.open (id := 1) (arr := aA B35 [1, 0, 0]) 5 [⟨some 1, 1, 71, [.v (.int .i64 ms), .v (.int .i64 p), .v (.int .i64 st), .v (.slice A n ca), .v (.slice B n cb)]⟩] [] [] (by kernel_rfl) (by kernel_rfl) (by kernel_rfl) (by kernel_rfl) (by kernel_rfl) ⟨⟨fun _ h => (by cases h; rfl), rfl⟩, trivial⟩ (by intro p hp hn; simp only [List.mem_cons, List.not_mem_nil, or_false] at hp; rcases hp with rfl <;> first | (cases hn; done) | exact absurd _ (Nat.le_of_ble_eq_true rfl)) rfl (fun ρ0 => ?_)
  refine XD.take (i := 0) (l' := (lb 5 1)) (oA B35 [1, 0, 0] 0) (.v (.agg #[.int .i64 ms, .int .i64 p, .int .i64 st, .slice A n ca, .slice B n cb])) QOk.ctxG (by kernel_rfl) (by kernel_rfl) (by kernel_rfl) (by kernel_rfl) (by kernel_rfl) ?_
  refine XD.take (i := 2) (l' := (lb 5 5)) (oA B35 [1, 0, 0] 2) (.own 1 1) QOk.ctxG (by kernel_rfl) (by kernel_rfl) (by kernel_rfl) (by kernel_rfl) (by kernel_rfl) ?_
  refine XD.take (i := 3) (l' := (lb 5 13)) (oA B35 [1, 0, 0] 3) (.v (.int .i64 p)) QOk.ctxG (by kernel_rfl) (by kernel_rfl) (by kernel_rfl) (by kernel_rfl) (by kernel_rfl) ?_
  refine XD.norm [1, 2, 3, 6] [1] ⟨13, [(1, .own 1 0), (2, .v (.int .i64 0)), (3, .v (.agg #[.int .i64 ms, .int .i64 p, .int .i64 st, .slice A n ca, .slice B n cb])), (6, .v (.int .i64 p))], [(1, ⟨71, [.v (.int .i64 ms), .v (.int .i64 p), .v (.int .i64 st), .v (.slice A n ca), .v (.slice B n cb)]⟩)]⟩ (by kernel_rfl) ⟨⟨fun _ h => (by cases h; rfl), rfl⟩, trivial⟩ ?_
  refine XD.one (i := 1) (l' := (lb 5 15)) (oA B35 [1, 0, 0] 1) (by kernel_rfl) (by kernel_rfl) (by kernel_rfl) ?_
  refine X.callG (f := 36) (l := [.v (.agg #[.int .i64 ms, .int .i64 p, .int .i64 st, .slice A n ca, .slice B n cb])]) [.agg #[.int .i64 ms, .int .i64 p, .int .i64 st, .slice A n ca, .slice B n cb]] 0 (by kernel_rfl) (by kernel_rfl) (by kernel_rfl) (RSum_ok A B ca cb n ms p st ws hs _ hx hy hwn hhn hxc hyc hxm hym hb h256) ?_
  rintro v2 G2 rows2 hG2 ⟨rfl, rfl⟩
  replace hx := hx.mono hG2.le
  replace hy := hy.mono hG2.le
  refine X.back ⟨⟨⟨fun _ h => (by cases h; rfl), rfl⟩, trivial⟩, hG2.le, rfl, ?_⟩
  refine XD.take (i := 4) (l' := (lb 5 31)) (oA B35 [1, 0, 0] 4) (.v (.bool (decide (sumI ws ≤ p)))) QOk.ctxG (by kernel_rfl) (by kernel_rfl) (by kernel_rfl) (by kernel_rfl) (by kernel_rfl) ?_
  refine XD.done (by kernel_rfl) ?_
  refine X.run 1 [1, 2, 7] [1] (.code (cA B35 [1, 0, 1])) [.seq (cA B35 [1, 1])] ⟨13, [(1, .own 1 0), (2, .v (.int .i64 0)), (7, .v (.bool (decide (sumI ws ≤ p))))], [(1, ⟨71, [.v (.int .i64 ms), .v (.int .i64 p), .v (.int .i64 st), .v (.slice A n ca), .v (.slice B n cb)]⟩)]⟩ (by kernel_rfl) ?_
  refine X.split 7 rfl (fun h3 => ?_) (fun h3 => ?_)
  · -- slot 7: decide (sumI ws ≤ p) is True
    replace h3 : sumI ws ≤ p := of_decide_eq_true h3
    refine X.run 8 [2] [] (.ex .ret) [] ⟨13, [(2, .v (.int .i64 0))], []⟩ (by kernel_rfl) ?_
    refine doneG (.inl rfl) [.int .i64 0] [] (by kernel_rfl) rfl rfl (hG2) ?_
    -- end 1 (T)
    exact ⟨congrArg (Value.int .i64) (by unfold quI; omega), rfl⟩
  · -- slot 7: decide (sumI ws ≤ p) is False
    replace h3 : ¬ (sumI ws ≤ p) := of_decide_eq_false h3
    refine X.run 4 [1, 2] [1] (.code (cA B35 [1, 1, 0])) [.seq (cA B35 [1, 1, 1])] ⟨13, [(1, .own 1 0), (2, .v (.int .i64 0))], [(1, ⟨71, [.v (.int .i64 ms), .v (.int .i64 p), .v (.int .i64 st), .v (.slice A n ca), .v (.slice B n cb)]⟩)]⟩ (by kernel_rfl) ?_
    have hx_d4 := hx
    have hy_d4 := hy
    refine XD.open (id := 3) (arr := aA B35 [1, 1, 0]) 6 [⟨some 1, 1, 71, [.v (.int .i64 ms), .v (.int .i64 p), .v (.int .i64 st), .v (.slice A n ca), .v (.slice B n cb)]⟩] [] [] (by kernel_rfl) (by kernel_rfl) (by kernel_rfl) (by kernel_rfl) (by kernel_rfl) ⟨⟨fun _ h => (by cases h; rfl), rfl⟩, trivial⟩ (by intro p hp hn; simp only [List.mem_cons, List.not_mem_nil, or_false] at hp; rcases hp with rfl <;> first | (cases hn; done) | exact absurd _ (Nat.le_of_ble_eq_true rfl)) rfl (fun ρ0 => ?_)
    refine XD.take (i := 0) (l' := (lb 6 1)) (oA B35 [1, 1, 0] 0) (.v (.agg #[.int .i64 ms, .int .i64 p, .int .i64 st, .slice A n ca, .slice B n cb])) QOk.ctxG (by kernel_rfl) (by kernel_rfl) (by kernel_rfl) (by kernel_rfl) (by kernel_rfl) ?_
    refine XD.take (i := 2) (l' := (lb 6 5)) (oA B35 [1, 1, 0] 2) (.own 1 1) QOk.ctxG (by kernel_rfl) (by kernel_rfl) (by kernel_rfl) (by kernel_rfl) (by kernel_rfl) ?_
    refine XD.take (i := 3) (l' := (lb 6 13)) (oA B35 [1, 1, 0] 3) (.v (.int .i64 p)) QOk.ctxG (by kernel_rfl) (by kernel_rfl) (by kernel_rfl) (by kernel_rfl) (by kernel_rfl) ?_
    refine XD.norm [1, 2, 8, 11] [1] ⟨13, [(1, .own 1 0), (2, .v (.int .i64 0)), (8, .v (.agg #[.int .i64 ms, .int .i64 p, .int .i64 st, .slice A n ca, .slice B n cb])), (11, .v (.int .i64 p))], [(1, ⟨71, [.v (.int .i64 ms), .v (.int .i64 p), .v (.int .i64 st), .v (.slice A n ca), .v (.slice B n cb)]⟩)]⟩ (by kernel_rfl) ⟨⟨fun _ h => (by cases h; rfl), rfl⟩, trivial⟩ ?_
    refine XD.one (i := 1) (l' := (lb 6 15)) (oA B35 [1, 1, 0] 1) (by kernel_rfl) (by kernel_rfl) (by kernel_rfl) ?_
    refine X.callG (f := 36) (l := [.v (.agg #[.int .i64 ms, .int .i64 p, .int .i64 st, .slice A n ca, .slice B n cb])]) [.agg #[.int .i64 ms, .int .i64 p, .int .i64 st, .slice A n ca, .slice B n cb]] 0 (by kernel_rfl) (by kernel_rfl) (by kernel_rfl) (RSum_ok A B ca cb n ms p st ws hs _ hx hy hwn hhn hxc hyc hxm hym hb h256) ?_
    rintro v5 G5 rows5 hG5 ⟨rfl, rfl⟩
    replace hx := hx.mono hG5.le
    replace hy := hy.mono hG5.le
    refine X.back ⟨⟨⟨fun _ h => (by cases h; rfl), rfl⟩, trivial⟩, hG5.le, rfl, ?_⟩
    refine XD.take (i := 4) (l' := (lb 6 31)) (oA B35 [1, 1, 0] 4) (.v (.int .i64 (IntKind.i64.wrap ((sumI ws) - p)))) QOk.ctxG (by kernel_rfl) (by kernel_rfl) (by kernel_rfl) (by kernel_rfl) (by kernel_rfl) ?_
    refine XD.known 12 (y := .v (.int .i64 ((sumI ws) - p))) rfl (congrArg (fun z_ => AV.v (.int .i64 z_)) (wi64 (by omega) (by omega))) ?_
    refine XD.take (i := 5) (l' := (lb 6 63)) (oA B35 [1, 1, 0] 5) (.v (.int .i64 ((sumI ws) - p))) QOk.ctxG (by kernel_rfl) (by kernel_rfl) (by kernel_rfl) (by kernel_rfl) (by kernel_rfl) ?_
    refine XD.done (by kernel_rfl) ?_
    refine X.run 2 [2] [] (.ex .ret) [] ⟨13, [(2, .v (.int .i64 ((sumI ws) - p)))], []⟩ (by kernel_rfl) ?_
    refine doneG (.inl rfl) [.int .i64 ((sumI ws) - p)] [] (by kernel_rfl) rfl rfl ((hG2.trans hG5)) ?_
    -- end 2 (F)
    exact ⟨congrArg (Value.int .i64) (by unfold quI; omega), rfl⟩

end Go.Proofs.YthpinlcfcgnilaaX
