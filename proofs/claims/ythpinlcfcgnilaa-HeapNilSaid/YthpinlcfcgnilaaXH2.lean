/- leatlaw06.HeapNil: walked. Printed by a small program of this session. Conditions: none. -/
import Derived.Test.YthpinlcfcgnilaaProg
import Derived.KernelRfl
import Derived.Test.YthpinlcfcgnilaaXH1
namespace Go.Proofs.YthpinlcfcgnilaaX
open Go.RowKit
open Go.Proofs.YthpinlcfcgnilaaW.PrintLast Go.Proofs.YthpinlcfcgnilaaW.PrintWords
set_option linter.unusedVariables false
set_option linter.unusedSimpArgs false
set_option maxRecDepth 100000
/-- leat/leatlaw06.HeapNil -/
noncomputable def B8 : Code := bodyOf Try.f8
set_option maxHeartbeats 1000000 in
theorem HeapNil_ok (e0_ e1_ e2_ e3_ : Int) (G : Mem) : CallsG Try.prog 8 [.agg #[.int .i64 e0_, .int .i64 e1_, .int .i64 e2_, .int .i64 e3_]] G (fun _ v rows => v = .bool true ∧ rows = []) := by
  refine CallsG.enter Try.func8 rfl rfl ?_
  intro w
  refine X.run 15 [1, 2, 3, 8, 9] [1] (.ops (aA B8 [1, 1, 0]) (oA B8 [1, 1, 0] 2 :: lA B8 [1, 1, 0] 3)) [.seq (cA B8 [1, 1, 1])] ⟨42, [(1, .own 1 0), (2, .v (.bool false)), (3, .v (.pointer none)), (8, .v (.pointer none)), (9, .v (.agg #[.int .i64 e0_, .int .i64 e1_, .int .i64 e2_, .int .i64 e3_]))], [(1, ⟨27, [.v (.int .i64 e0_), .v (.int .i64 e1_), .v (.int .i64 e2_), .v (.int .i64 e3_)]⟩)]⟩ (by kernel_rfl) ?_
  refine X.inline (f := 15) (l := [.v (.pointer none), .v (.agg #[.int .i64 e0_, .int .i64 e1_, .int .i64 e2_, .int .i64 e3_])]) (fn := Try.f15) (c := B15) (by kernel_rfl) (by kernel_rfl) Try.func15 (by kernel_rfl) ?_
  intro Q1 M1 hM1 hQ1 fin1
  refine X.run 15 [] [1001] (.ex .ret) [] ⟨36, [], [(1001, ⟨27, [.v (.int .i64 e0_), .v (.int .i64 e1_), .v (.int .i64 e2_), .v (.int .i64 e3_)]⟩)]⟩ (by kernel_rfl) ?_
  refine fin1 _ _ _ _ [] [(1, ⟨27, [.v (.int .i64 e0_), .v (.int .i64 e1_), .v (.int .i64 e2_), .v (.int .i64 e3_)]⟩)] (.inl rfl) (by kernel_rfl) (by kernel_rfl) ?_
  refine X.run 5 [1, 2, 3, 12] [1] (.ops (aA B8 [1, 1, 1, 0]) (oA B8 [1, 1, 1, 0] 1 :: lA B8 [1, 1, 1, 0] 2)) [.seq (cA B8 [1, 1, 1, 1])] ⟨42, [(1, .own 1 0), (2, .v (.bool false)), (3, .v (.pointer none)), (12, .v (.pointer none))], [(1, ⟨27, [.v (.int .i64 e0_), .v (.int .i64 e1_), .v (.int .i64 e2_), .v (.int .i64 e3_)]⟩)]⟩ (by kernel_rfl) ?_
  refine X.inline (f := 16) (l := [.v (.pointer none)]) (fn := Try.f16) (c := B16) (by kernel_rfl) (by kernel_rfl) Try.func16 (by kernel_rfl) ?_
  intro Q2 M2 hM2 hQ2 fin2
  refine X.run 9 [0, 2, 3, 8] [2, 1001] (.ops (aA B16 [1, 0]) (oA B16 [1, 0] 1 :: lA B16 [1, 0] 2)) [.seq (cA B16 [1, 1])] ⟨45, [(0, .v (.pointer none)), (2, .own 2 0), (3, .v (.bool false)), (8, .v (.pointer none))], [(2, ⟨27, [.v (.int .i64 0), .v (.int .i64 0), .v (.int .i64 0), .v (.int .i64 0)]⟩), (1001, ⟨27, [.v (.int .i64 e0_), .v (.int .i64 e1_), .v (.int .i64 e2_), .v (.int .i64 e3_)]⟩)]⟩ (by kernel_rfl) ?_
  refine X.inline (f := 32) (l := [.v (.pointer none)]) (fn := Try.f32) (c := B32) (by kernel_rfl) (by kernel_rfl) Try.func32 (by kernel_rfl) ?_
  intro Q3 M3 hM3 hQ3 fin3
  refine X.run 10 [0, 2, 3, 4] [2, 1002, 2001] (.ops (aA B32 [1, 0, 0]) (oA B32 [1, 0, 0] 1 :: lA B32 [1, 0, 0] 2)) [.seq (cA B32 [1, 0, 1]), .seq (cA B32 [1, 1])] ⟨15, [(0, .v (.pointer none)), (2, .own 2 0), (3, .v (.bool false)), (4, .v (.pointer none))], [(2, ⟨27, [.v (.int .i64 0), .v (.int .i64 0), .v (.int .i64 0), .v (.int .i64 0)]⟩), (1002, ⟨27, [.v (.int .i64 0), .v (.int .i64 0), .v (.int .i64 0), .v (.int .i64 0)]⟩), (2001, ⟨27, [.v (.int .i64 e0_), .v (.int .i64 e1_), .v (.int .i64 e2_), .v (.int .i64 e3_)]⟩)]⟩ (by kernel_rfl) ?_
  refine X.inline (f := 17) (l := [.v (.pointer none)]) (fn := Try.f17) (c := B17) (by kernel_rfl) (by kernel_rfl) Try.func17 (by kernel_rfl) ?_
  intro Q4 M4 hM4 hQ4 fin4
  refine X.run 20 [2] [1002, 2002, 3001] (.ex .ret) [] ⟨10, [(2, .v (.int .i64 0))], [(1002, ⟨27, [.v (.int .i64 0), .v (.int .i64 0), .v (.int .i64 0), .v (.int .i64 0)]⟩), (2002, ⟨27, [.v (.int .i64 0), .v (.int .i64 0), .v (.int .i64 0), .v (.int .i64 0)]⟩), (3001, ⟨27, [.v (.int .i64 e0_), .v (.int .i64 e1_), .v (.int .i64 e2_), .v (.int .i64 e3_)]⟩)]⟩ (by kernel_rfl) ?_
  refine fin4 _ _ _ _ [.int .i64 0] [(2, ⟨27, [.v (.int .i64 0), .v (.int .i64 0), .v (.int .i64 0), .v (.int .i64 0)]⟩), (1002, ⟨27, [.v (.int .i64 0), .v (.int .i64 0), .v (.int .i64 0), .v (.int .i64 0)]⟩), (2001, ⟨27, [.v (.int .i64 e0_), .v (.int .i64 e1_), .v (.int .i64 e2_), .v (.int .i64 e3_)]⟩)] (.inl rfl) (by kernel_rfl) (by kernel_rfl) ?_
  refine X.run 13 [2, 3] [2, 1002, 2001] (.ex .ret) [] ⟨15, [(2, .own 2 0), (3, .v (.bool false))], [(2, ⟨27, [.v (.int .i64 0), .v (.int .i64 0), .v (.int .i64 0), .v (.int .i64 0)]⟩), (1002, ⟨27, [.v (.int .i64 0), .v (.int .i64 0), .v (.int .i64 0), .v (.int .i64 0)]⟩), (2001, ⟨27, [.v (.int .i64 e0_), .v (.int .i64 e1_), .v (.int .i64 e2_), .v (.int .i64 e3_)]⟩)]⟩ (by kernel_rfl) ?_
  refine fin3 _ _ _ _ [.agg #[.int .i64 0, .int .i64 0, .int .i64 0, .int .i64 0], .bool false] [(2, ⟨27, [.v (.int .i64 0), .v (.int .i64 0), .v (.int .i64 0), .v (.int .i64 0)]⟩), (1001, ⟨27, [.v (.int .i64 e0_), .v (.int .i64 e1_), .v (.int .i64 e2_), .v (.int .i64 e3_)]⟩)] (.inl rfl) (by kernel_rfl) (by kernel_rfl) ?_
  refine X.run 25 [2, 3] [2, 1001] (.ex .ret) [] ⟨45, [(2, .own 2 0), (3, .v (.bool false))], [(2, ⟨27, [.v (.int .i64 0), .v (.int .i64 0), .v (.int .i64 0), .v (.int .i64 0)]⟩), (1001, ⟨27, [.v (.int .i64 e0_), .v (.int .i64 e1_), .v (.int .i64 e2_), .v (.int .i64 e3_)]⟩)]⟩ (by kernel_rfl) ?_
  refine fin2 _ _ _ _ [.agg #[.int .i64 0, .int .i64 0, .int .i64 0, .int .i64 0], .bool false] [(1, ⟨27, [.v (.int .i64 e0_), .v (.int .i64 e1_), .v (.int .i64 e2_), .v (.int .i64 e3_)]⟩)] (.inl rfl) (by kernel_rfl) (by kernel_rfl) ?_
  refine X.run 11 [1, 2, 3, 5, 17] [1] (.ops (aA B8 [1, 1, 1, 1, 0]) (oA B8 [1, 1, 1, 1, 0] 1 :: lA B8 [1, 1, 1, 1, 0] 2)) [.seq (cA B8 [1, 1, 1, 1, 1])] ⟨42, [(1, .own 1 0), (2, .v (.bool false)), (3, .v (.pointer none)), (5, .v (.bool false)), (17, .v (.pointer none))], [(1, ⟨27, [.v (.int .i64 e0_), .v (.int .i64 e1_), .v (.int .i64 e2_), .v (.int .i64 e3_)]⟩)]⟩ (by kernel_rfl) ?_
  refine X.inline (f := 32) (l := [.v (.pointer none)]) (fn := Try.f32) (c := B32) (by kernel_rfl) (by kernel_rfl) Try.func32 (by kernel_rfl) ?_
  intro Q5 M5 hM5 hQ5 fin5
  refine X.run 10 [0, 2, 3, 4] [2, 1001] (.ops (aA B32 [1, 0, 0]) (oA B32 [1, 0, 0] 1 :: lA B32 [1, 0, 0] 2)) [.seq (cA B32 [1, 0, 1]), .seq (cA B32 [1, 1])] ⟨15, [(0, .v (.pointer none)), (2, .own 2 0), (3, .v (.bool false)), (4, .v (.pointer none))], [(2, ⟨27, [.v (.int .i64 0), .v (.int .i64 0), .v (.int .i64 0), .v (.int .i64 0)]⟩), (1001, ⟨27, [.v (.int .i64 e0_), .v (.int .i64 e1_), .v (.int .i64 e2_), .v (.int .i64 e3_)]⟩)]⟩ (by kernel_rfl) ?_
  refine X.inline (f := 17) (l := [.v (.pointer none)]) (fn := Try.f17) (c := B17) (by kernel_rfl) (by kernel_rfl) Try.func17 (by kernel_rfl) ?_
  intro Q6 M6 hM6 hQ6 fin6
  refine X.run 20 [2] [1002, 2001] (.ex .ret) [] ⟨10, [(2, .v (.int .i64 0))], [(1002, ⟨27, [.v (.int .i64 0), .v (.int .i64 0), .v (.int .i64 0), .v (.int .i64 0)]⟩), (2001, ⟨27, [.v (.int .i64 e0_), .v (.int .i64 e1_), .v (.int .i64 e2_), .v (.int .i64 e3_)]⟩)]⟩ (by kernel_rfl) ?_
  refine fin6 _ _ _ _ [.int .i64 0] [(2, ⟨27, [.v (.int .i64 0), .v (.int .i64 0), .v (.int .i64 0), .v (.int .i64 0)]⟩), (1001, ⟨27, [.v (.int .i64 e0_), .v (.int .i64 e1_), .v (.int .i64 e2_), .v (.int .i64 e3_)]⟩)] (.inl rfl) (by kernel_rfl) (by kernel_rfl) ?_
  refine X.run 13 [2, 3] [2, 1001] (.ex .ret) [] ⟨15, [(2, .own 2 0), (3, .v (.bool false))], [(2, ⟨27, [.v (.int .i64 0), .v (.int .i64 0), .v (.int .i64 0), .v (.int .i64 0)]⟩), (1001, ⟨27, [.v (.int .i64 e0_), .v (.int .i64 e1_), .v (.int .i64 e2_), .v (.int .i64 e3_)]⟩)]⟩ (by kernel_rfl) ?_
  refine fin5 _ _ _ _ [.agg #[.int .i64 0, .int .i64 0, .int .i64 0, .int .i64 0], .bool false] [(1, ⟨27, [.v (.int .i64 e0_), .v (.int .i64 e1_), .v (.int .i64 e2_), .v (.int .i64 e3_)]⟩)] (.inl rfl) (by kernel_rfl) (by kernel_rfl) ?_
  refine X.run 18 [1, 2, 3, 27, 28] [1] (.ops (aA B8 [1, 1, 1, 1, 1, 0]) (oA B8 [1, 1, 1, 1, 1, 0] 8 :: lA B8 [1, 1, 1, 1, 1, 0] 9)) [.seq (cA B8 [1, 1, 1, 1, 1, 1])] ⟨42, [(1, .own 1 0), (2, .v (.bool false)), (3, .v (.pointer none)), (27, .v (.bool true)), (28, .v (.pointer none))], [(1, ⟨27, [.v (.int .i64 e0_), .v (.int .i64 e1_), .v (.int .i64 e2_), .v (.int .i64 e3_)]⟩)]⟩ (by kernel_rfl) ?_
  refine X.inline (f := 17) (l := [.v (.pointer none)]) (fn := Try.f17) (c := B17) (by kernel_rfl) (by kernel_rfl) Try.func17 (by kernel_rfl) ?_
  intro Q7 M7 hM7 hQ7 fin7
  refine X.run 20 [2] [1001] (.ex .ret) [] ⟨10, [(2, .v (.int .i64 0))], [(1001, ⟨27, [.v (.int .i64 e0_), .v (.int .i64 e1_), .v (.int .i64 e2_), .v (.int .i64 e3_)]⟩)]⟩ (by kernel_rfl) ?_
  refine fin7 _ _ _ _ [.int .i64 0] [(1, ⟨27, [.v (.int .i64 e0_), .v (.int .i64 e1_), .v (.int .i64 e2_), .v (.int .i64 e3_)]⟩)] (.inl rfl) (by kernel_rfl) (by kernel_rfl) ?_
  refine X.run 6 [2, 32, 33, 35] [] (.ops (aA B8 [1, 1, 1, 1, 1, 0]) (oA B8 [1, 1, 1, 1, 1, 0] 15 :: lA B8 [1, 1, 1, 1, 1, 0] 16)) [.seq (cA B8 [1, 1, 1, 1, 1, 1])] ⟨42, [(2, .v (.bool false)), (32, .v (.bool true)), (33, .v (.pointer none)), (35, .v (.int .i64 e2_))], []⟩ (by kernel_rfl) ?_
  refine X.inline (f := 29) (l := [.v (.pointer none), .v (.int .i64 e2_)]) (fn := Try.f29) (c := B29) (by kernel_rfl) (by kernel_rfl) Try.func29 (by kernel_rfl) ?_
  intro Q8 M8 hM8 hQ8 fin8
  refine X.run 9 [0, 3, 4, 7] [3] (.ops (aA B29 [1, 0]) (oA B29 [1, 0] 1 :: lA B29 [1, 0] 2)) [.seq (cA B29 [1, 1])] ⟨41, [(0, .v (.pointer none)), (3, .own 3 0), (4, .v (.int .i64 0)), (7, .v (.pointer none))], [(3, ⟨3, [.v (.int .i64 e2_)]⟩)]⟩ (by kernel_rfl) ?_
  refine X.inline (f := 17) (l := [.v (.pointer none)]) (fn := Try.f17) (c := B17) (by kernel_rfl) (by kernel_rfl) Try.func17 (by kernel_rfl) ?_
  intro Q9 M9 hM9 hQ9 fin9
  refine X.run 20 [2] [1003] (.ex .ret) [] ⟨10, [(2, .v (.int .i64 0))], [(1003, ⟨3, [.v (.int .i64 e2_)]⟩)]⟩ (by kernel_rfl) ?_
  refine fin9 _ _ _ _ [.int .i64 0] [(3, ⟨3, [.v (.int .i64 e2_)]⟩)] (.inl rfl) (by kernel_rfl) (by kernel_rfl) ?_
  refine X.run 18 [4] [] (.ex .ret) [] ⟨41, [(4, .v (.int .i64 0))], []⟩ (by kernel_rfl) ?_
  refine fin8 _ _ _ _ [.int .i64 0] [] (.inl rfl) (by kernel_rfl) (by kernel_rfl) ?_
  refine X.run 3 [2, 39] [] (.ops (aA B8 [1, 1, 1, 1, 1, 0]) (oA B8 [1, 1, 1, 1, 1, 0] 19 :: lA B8 [1, 1, 1, 1, 1, 0] 20)) [.seq (cA B8 [1, 1, 1, 1, 1, 1])] ⟨42, [(2, .v (.bool false)), (39, .v (.bool true))], []⟩ (by kernel_rfl) ?_
  refine X.callG (f := 18) (l := []) [] 0 (by kernel_rfl) (by kernel_rfl) (by kernel_rfl) (works06_ok _) ?_
  rintro v10 G10 rows10 hG10 ⟨rfl, rfl⟩
  refine X.run 5 [2] [] (.ex .ret) [] ⟨42, [(2, .v (.bool true))], []⟩ (by kernel_rfl) ?_
  refine doneG (.inl rfl) [.bool true] [] (by kernel_rfl) rfl rfl (hG10) ?_
  -- end 10 ()
  exact ⟨rfl, rfl⟩

end Go.Proofs.YthpinlcfcgnilaaX
