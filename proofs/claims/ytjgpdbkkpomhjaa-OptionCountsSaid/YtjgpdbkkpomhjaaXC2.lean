/- leatlaw15.works -/
import Derived.Test.YtjgpdbkkpomhjaaProg
import Derived.KernelRfl
import Derived.Test.YtjgpdbkkpomhjaaXC1
namespace Go.Proofs.YtjgpdbkkpomhjaaX
open Go.RowKit
set_option linter.unusedVariables false
set_option linter.unusedSimpArgs false
set_option maxRecDepth 100000
/-- leat/count.Take -/
noncomputable def B150 : Code := bodyOf Try.f150

/-- leat/count.Start -/
noncomputable def B151 : Code := bodyOf Try.f151

/-- leat/count.Take-1 -/
noncomputable def B168 : Code := bodyOf Try.f168

/-- leat/sat.Add -/
noncomputable def B169 : Code := bodyOf Try.f169

/-- leat/sat.Clamp -/
noncomputable def B170 : Code := bodyOf Try.f170

/-- leat/leatlaw15.works -/
noncomputable def B96 : Code := bodyOf Try.f96
set_option maxHeartbeats 1000000 in
theorem works15_ok (G : Mem) : CallsG Try.prog 96 [] G (fun _ v rows => v = .bool true ∧ rows = []) := by
  refine CallsG.enter Try.func96 rfl rfl ?_
  intro w
  refine X.run 7 [0] [] (.ops (aA B96 [1, 0]) (oA B96 [1, 0] 0 :: lA B96 [1, 0] 1)) [.seq (cA B96 [1, 1])] ⟨22, [(0, .v (.bool false))], []⟩ (by kernel_rfl) ?_
  refine X.inline (f := 151) (l := [.v (.int .i64 5)]) (fn := Try.f151) (c := B151) (by kernel_rfl) (by kernel_rfl) Try.func151 (by kernel_rfl) ?_
  intro Q1 M1 hM1 hQ1 fin1
  refine X.run 13 [2] [2] (.ex .ret) [] ⟨5, [(2, .own 2 0)], [(2, ⟨131, [.v (.int .i64 5), .v (.int .i64 0), .v (.int .i64 1), .v (.int .i64 1)]⟩)]⟩ (by kernel_rfl) ?_
  refine fin1 _ _ _ _ [.agg #[.int .i64 5, .int .i64 0, .int .i64 1, .int .i64 1]] [] (.inl rfl) (by kernel_rfl) (by kernel_rfl) ?_
  refine X.run 0 [0, 2] [] (.ops (aA B96 [1, 0]) (oA B96 [1, 0] 1 :: lA B96 [1, 0] 2)) [.seq (cA B96 [1, 1])] ⟨22, [(0, .v (.bool false)), (2, .v (.agg #[.int .i64 5, .int .i64 0, .int .i64 1, .int .i64 1]))], []⟩ (by kernel_rfl) ?_
  refine X.inline (f := 150) (l := [.v (.agg #[.int .i64 5, .int .i64 0, .int .i64 1, .int .i64 1]), .v (.int .i64 3), .v (.int .i64 100)]) (fn := Try.f150) (c := B150) (by kernel_rfl) (by kernel_rfl) Try.func150 (by kernel_rfl) ?_
  intro Q2 M2 hM2 hQ2 fin2
  refine X.run 14 [1, 2, 3, 6, 7, 8] [3, 6] (.ops (aA B150 [1, 1, 0]) (oA B150 [1, 1, 0] 1 :: lA B150 [1, 1, 0] 2)) [.seq (cA B150 [1, 1, 1])] ⟨33, [(1, .v (.int .i64 3)), (2, .v (.int .i64 100)), (3, .own 3 0), (6, .own 6 0), (7, .fn 168 []), (8, .v (.int .i64 100))], [(3, ⟨131, [.v (.int .i64 5), .v (.int .i64 0), .v (.int .i64 1), .v (.int .i64 1)]⟩), (6, ⟨131, [.v (.int .i64 0), .v (.int .i64 0), .v (.int .i64 0), .v (.int .i64 0)]⟩)]⟩ (by kernel_rfl) ?_
  refine X.inline (f := 170) (l := [.v (.int .i64 100), .v (.int .i64 0), .v (.int .i64 65536)]) (fn := Try.f170) (c := B170) (by kernel_rfl) (by kernel_rfl) Try.func170 (by kernel_rfl) ?_
  intro Q3 M3 hM3 hQ3 fin3
  refine X.run 16 [6] [1003, 1006] (.ex .ret) [] ⟨12, [(6, .v (.int .i64 100))], [(1003, ⟨131, [.v (.int .i64 5), .v (.int .i64 0), .v (.int .i64 1), .v (.int .i64 1)]⟩), (1006, ⟨131, [.v (.int .i64 0), .v (.int .i64 0), .v (.int .i64 0), .v (.int .i64 0)]⟩)]⟩ (by kernel_rfl) ?_
  refine fin3 _ _ _ _ [.int .i64 100] [(3, ⟨131, [.v (.int .i64 5), .v (.int .i64 0), .v (.int .i64 1), .v (.int .i64 1)]⟩), (6, ⟨131, [.v (.int .i64 0), .v (.int .i64 0), .v (.int .i64 0), .v (.int .i64 0)]⟩)] (.inl rfl) (by kernel_rfl) (by kernel_rfl) ?_
  refine X.run 21 [2, 3, 6, 7, 13, 14] [3, 6] (.ops (aA B150 [1, 1, 1, 0, 1, 0, 1, 0, 0]) (oA B150 [1, 1, 1, 0, 1, 0, 1, 0, 0] 2 :: lA B150 [1, 1, 1, 0, 1, 0, 1, 0, 0] 3)) [.seq (cA B150 [1, 1, 1, 0, 1, 0, 1, 0, 1]), .blk 0, .seq (cA B150 [1, 1, 1, 1])] ⟨33, [(2, .v (.int .i64 100)), (3, .own 3 0), (6, .own 6 0), (7, .fn 168 []), (13, .fn 168 []), (14, .own 3 0)], [(3, ⟨131, [.v (.int .i64 5), .v (.int .i64 0), .v (.int .i64 1), .v (.int .i64 1)]⟩), (6, ⟨131, [.v (.int .i64 0), .v (.int .i64 0), .v (.int .i64 0), .v (.int .i64 0)]⟩)]⟩ (by kernel_rfl) ?_
  refine X.inline (f := 168) (l := [.own 3 0, .v (.int .i64 1)]) (fn := Try.f168) (c := B168) (by kernel_rfl) (by kernel_rfl) Try.func168 (by kernel_rfl) ?_
  intro Q4 M4 hM4 hQ4 fin4
  refine X.run 6 [4, 7, 8] [1003, 1006] (.ops (aA B168 []) (oA B168 [] 5 :: lA B168 [] 6)) [] ⟨11, [(4, .own 1003 0), (7, .v (.int .i64 5)), (8, .v (.int .i64 1))], [(1003, ⟨131, [.v (.int .i64 5), .v (.int .i64 0), .v (.int .i64 1), .v (.int .i64 1)]⟩), (1006, ⟨131, [.v (.int .i64 0), .v (.int .i64 0), .v (.int .i64 0), .v (.int .i64 0)]⟩)]⟩ (by kernel_rfl) ?_
  refine X.inline (f := 169) (l := [.v (.int .i64 5), .v (.int .i64 1)]) (fn := Try.f169) (c := B169) (by kernel_rfl) (by kernel_rfl) Try.func169 (by kernel_rfl) ?_
  intro Q5 M5 hM5 hQ5 fin5
  refine X.run 26 [0, 4, 5, 16] [2003, 2006] (.code (cA B169 [1, 1, 0, 1])) [.seq (cA B169 [1, 1, 1])] ⟨21, [(0, .v (.int .i64 5)), (4, .v (.int .i64 0)), (5, .v (.int .i64 6)), (16, .v (.bool (decide (band .i64 (bxor .i64 5 6) (bxor .i64 1 6) < 0))))], [(2003, ⟨131, [.v (.int .i64 5), .v (.int .i64 0), .v (.int .i64 1), .v (.int .i64 1)]⟩), (2006, ⟨131, [.v (.int .i64 0), .v (.int .i64 0), .v (.int .i64 0), .v (.int .i64 0)]⟩)]⟩ (by kernel_rfl) ?_
  refine X.isFalse 16 rfl (by decide) ?_
  refine X.run 10 [4] [2003, 2006] (.ex .ret) [] ⟨21, [(4, .v (.int .i64 6))], [(2003, ⟨131, [.v (.int .i64 5), .v (.int .i64 0), .v (.int .i64 1), .v (.int .i64 1)]⟩), (2006, ⟨131, [.v (.int .i64 0), .v (.int .i64 0), .v (.int .i64 0), .v (.int .i64 0)]⟩)]⟩ (by kernel_rfl) ?_
  refine fin5 _ _ _ _ [.int .i64 6] [(1003, ⟨131, [.v (.int .i64 5), .v (.int .i64 0), .v (.int .i64 1), .v (.int .i64 1)]⟩), (1006, ⟨131, [.v (.int .i64 0), .v (.int .i64 0), .v (.int .i64 0), .v (.int .i64 0)]⟩)] (.inl rfl) (by kernel_rfl) (by kernel_rfl) ?_
  refine X.run 3 [] [1003, 1006] (.ex .normal) [] ⟨11, [], [(1003, ⟨131, [.v (.int .i64 6), .v (.int .i64 0), .v (.int .i64 1), .v (.int .i64 1)]⟩), (1006, ⟨131, [.v (.int .i64 0), .v (.int .i64 0), .v (.int .i64 0), .v (.int .i64 0)]⟩)]⟩ (by kernel_rfl) ?_
  refine fin4 _ _ _ _ [] [(3, ⟨131, [.v (.int .i64 6), .v (.int .i64 0), .v (.int .i64 1), .v (.int .i64 1)]⟩), (6, ⟨131, [.v (.int .i64 0), .v (.int .i64 0), .v (.int .i64 0), .v (.int .i64 0)]⟩)] (.inr rfl) (by kernel_rfl) (by kernel_rfl) ?_
  refine X.run 6 [3, 6, 16, 17, 18] [3, 6] (.ops (aA B150 [1, 1, 1, 0, 1, 0, 1, 0, 1]) (oA B150 [1, 1, 1, 0, 1, 0, 1, 0, 1] 3 :: lA B150 [1, 1, 1, 0, 1, 0, 1, 0, 1] 4)) [.blk 0, .seq (cA B150 [1, 1, 1, 1])] ⟨33, [(3, .own 3 0), (6, .own 6 0), (16, .fn 168 []), (17, .own 3 1), (18, .v (.int .i64 100))], [(3, ⟨131, [.v (.int .i64 6), .v (.int .i64 0), .v (.int .i64 1), .v (.int .i64 1)]⟩), (6, ⟨131, [.v (.int .i64 0), .v (.int .i64 0), .v (.int .i64 0), .v (.int .i64 0)]⟩)]⟩ (by kernel_rfl) ?_
  refine X.inline (f := 168) (l := [.own 3 1, .v (.int .i64 100)]) (fn := Try.f168) (c := B168) (by kernel_rfl) (by kernel_rfl) Try.func168 (by kernel_rfl) ?_
  intro Q6 M6 hM6 hQ6 fin6
  refine X.run 6 [4, 7, 8] [1003, 1006] (.ops (aA B168 []) (oA B168 [] 5 :: lA B168 [] 6)) [] ⟨11, [(4, .own 1003 1), (7, .v (.int .i64 0)), (8, .v (.int .i64 100))], [(1003, ⟨131, [.v (.int .i64 6), .v (.int .i64 0), .v (.int .i64 1), .v (.int .i64 1)]⟩), (1006, ⟨131, [.v (.int .i64 0), .v (.int .i64 0), .v (.int .i64 0), .v (.int .i64 0)]⟩)]⟩ (by kernel_rfl) ?_
  refine X.inline (f := 169) (l := [.v (.int .i64 0), .v (.int .i64 100)]) (fn := Try.f169) (c := B169) (by kernel_rfl) (by kernel_rfl) Try.func169 (by kernel_rfl) ?_
  intro Q7 M7 hM7 hQ7 fin7
  refine X.run 26 [0, 4, 5, 16] [2003, 2006] (.code (cA B169 [1, 1, 0, 1])) [.seq (cA B169 [1, 1, 1])] ⟨21, [(0, .v (.int .i64 0)), (4, .v (.int .i64 0)), (5, .v (.int .i64 100)), (16, .v (.bool (decide (band .i64 (bxor .i64 0 100) (bxor .i64 100 100) < 0))))], [(2003, ⟨131, [.v (.int .i64 6), .v (.int .i64 0), .v (.int .i64 1), .v (.int .i64 1)]⟩), (2006, ⟨131, [.v (.int .i64 0), .v (.int .i64 0), .v (.int .i64 0), .v (.int .i64 0)]⟩)]⟩ (by kernel_rfl) ?_
  refine X.isFalse 16 rfl (by decide) ?_
  refine X.run 10 [4] [2003, 2006] (.ex .ret) [] ⟨21, [(4, .v (.int .i64 100))], [(2003, ⟨131, [.v (.int .i64 6), .v (.int .i64 0), .v (.int .i64 1), .v (.int .i64 1)]⟩), (2006, ⟨131, [.v (.int .i64 0), .v (.int .i64 0), .v (.int .i64 0), .v (.int .i64 0)]⟩)]⟩ (by kernel_rfl) ?_
  refine fin7 _ _ _ _ [.int .i64 100] [(1003, ⟨131, [.v (.int .i64 6), .v (.int .i64 0), .v (.int .i64 1), .v (.int .i64 1)]⟩), (1006, ⟨131, [.v (.int .i64 0), .v (.int .i64 0), .v (.int .i64 0), .v (.int .i64 0)]⟩)] (.inl rfl) (by kernel_rfl) (by kernel_rfl) ?_
  refine X.run 3 [] [1003, 1006] (.ex .normal) [] ⟨11, [], [(1003, ⟨131, [.v (.int .i64 6), .v (.int .i64 100), .v (.int .i64 1), .v (.int .i64 1)]⟩), (1006, ⟨131, [.v (.int .i64 0), .v (.int .i64 0), .v (.int .i64 0), .v (.int .i64 0)]⟩)]⟩ (by kernel_rfl) ?_
  refine fin6 _ _ _ _ [] [(3, ⟨131, [.v (.int .i64 6), .v (.int .i64 100), .v (.int .i64 1), .v (.int .i64 1)]⟩), (6, ⟨131, [.v (.int .i64 0), .v (.int .i64 0), .v (.int .i64 0), .v (.int .i64 0)]⟩)] (.inr rfl) (by kernel_rfl) (by kernel_rfl) ?_
  refine X.run 10 [6] [6] (.ex .ret) [] ⟨33, [(6, .own 6 0)], [(6, ⟨131, [.v (.int .i64 6), .v (.int .i64 100), .v (.int .i64 1), .v (.int .i64 1)]⟩)]⟩ (by kernel_rfl) ?_
  refine fin2 _ _ _ _ [.agg #[.int .i64 6, .int .i64 100, .int .i64 1, .int .i64 1]] [] (.inl rfl) (by kernel_rfl) (by kernel_rfl) ?_
  refine X.run 21 [0, 17, 18] [] (.ops (aA B96 [1, 1, 0]) (oA B96 [1, 1, 0] 15 :: lA B96 [1, 1, 0] 16)) [.seq (cA B96 [1, 1, 1])] ⟨22, [(0, .v (.bool false)), (17, .v (.bool true)), (18, .v (.agg #[.int .i64 6, .int .i64 100, .int .i64 1, .int .i64 1]))], []⟩ (by kernel_rfl) ?_
  refine X.callG (f := 91) (l := [.v (.agg #[.int .i64 6, .int .i64 100, .int .i64 1, .int .i64 1])]) [.agg #[.int .i64 6, .int .i64 100, .int .i64 1, .int .i64 1]] 0 (by kernel_rfl) (by kernel_rfl) (by kernel_rfl) (cAce_ok 6 100 1 1 _) ?_
  rintro v8 G8 rows8 hG8 ⟨rfl, rfl⟩
  refine X.run 6 [0] [] (.ex .ret) [] ⟨22, [(0, .v (.bool ((IntKind.u8.wrap (band .i64 6 7)) == 6)))], []⟩ (by kernel_rfl) ?_
  refine doneG (.inl rfl) [.bool ((IntKind.u8.wrap (band .i64 6 7)) == 6)] [] (by kernel_rfl) rfl rfl (hG8) ?_
  -- end 8 ()
  exact ⟨congrArg Value.bool (by decide), rfl⟩
end Go.Proofs.YtjgpdbkkpomhjaaX
