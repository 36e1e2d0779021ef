/- count: Ace, Bytes; leatref15: Low, Bytes -/
import Derived.Test.YtjgpdbkkpomhjaaProg
import Derived.KernelRfl
import Derived.Test.YtjgpdbkkpomhjaaXJ
import Derived.Test.YtjgpdbkkpomhjaaX4
namespace Go.Proofs.YtjgpdbkkpomhjaaX
open Go.RowKit
set_option linter.unusedVariables false
set_option linter.unusedSimpArgs false
set_option maxRecDepth 100000
/-- leat/count.Ace -/
noncomputable def B91 : Code := bodyOf Try.f91
set_option maxHeartbeats 1000000 in
theorem cAce_ok (c0 c1 c2 c3 : Int) (G : Mem) : CallsG Try.prog 91 [.agg #[.int .i64 c0, .int .i64 c1, .int .i64 c2, .int .i64 c3]] G (fun _ v rows => v = .int .u8 (IntKind.u8.wrap (band .i64 c0 7)) ∧ rows = []) := by
  refine CallsG.enter Try.func91 rfl rfl ?_
  intro w
  refine X.run 16 [2] [] (.ex .ret) [] ⟨7, [(2, .v (.int .u8 (IntKind.u8.wrap (band .i64 c0 7))))], []⟩ (by kernel_rfl) ?_
  refine doneG (.inl rfl) [.int .u8 (IntKind.u8.wrap (band .i64 c0 7))] [] (by kernel_rfl) rfl rfl (Ge.refl _ _) ?_
  -- end 1 ()
  exact ⟨rfl, rfl⟩

/-- leat/leatref15.Low -/
noncomputable def B92 : Code := bodyOf Try.f92
set_option maxHeartbeats 1000000 in
theorem Low8_ok (n : Int) (h : (-9223372036854775808 ≤ n ∧ n ≤ 9223372036854775807)) (G : Mem) : CallsG Try.prog 92 [.int .i64 n, .int .i64 8] G (fun _ v rows => v = .int .i64 (n % 8) ∧ rows = []) := by
  refine CallsG.enter Try.func92 rfl rfl ?_
  intro w
  refine X.run 20 [1, 4, 5, 10] [] (.code (cA B92 [1, 1, 0, 1])) [.seq (cA B92 [1, 1, 1])] ⟨15, [(1, .v (.int .i64 8)), (4, .v (.int .i64 0)), (5, .v (.int .i64 (Int.tmod n 8))), (10, .v (.bool (decide (Int.tmod n 8 < 0))))], []⟩ (by kernel_rfl) ?_
  refine X.split 10 rfl (fun h1 => ?_) (fun h1 => ?_)
  · -- slot 10: decide (Int.tmod n 8 < 0) is True
    replace h1 : Int.tmod n 8 < 0 := of_decide_eq_true h1
    refine X.run 15 [4] [] (.ex .ret) [] ⟨15, [(4, .v (.int .i64 (IntKind.i64.wrap ((Int.tmod n 8) + 8))))], []⟩ (by kernel_rfl) ?_
    refine doneG (.inl rfl) [.int .i64 (IntKind.i64.wrap ((Int.tmod n 8) + 8))] [] (by kernel_rfl) rfl rfl (Ge.refl _ _) ?_
    -- end 1 (T)
    have hq_ := Int.mul_tdiv_add_tmod n 8
    have ha_ := Int.lt_tmod_of_pos n (show (0 : Int) < 8 by decide)
    have hb_ := Int.tmod_lt_of_pos n (show (0 : Int) < 8 by decide)
    refine ⟨?_, rfl⟩
    rw [show IntKind.i64.wrap (Int.tmod n 8 + 8) = n % 8 by rw [wi64 (by omega) (by omega)]; omega]
    rfl
  · -- slot 10: decide (Int.tmod n 8 < 0) is False
    replace h1 : ¬ (Int.tmod n 8 < 0) := of_decide_eq_false h1
    refine X.run 10 [4] [] (.ex .ret) [] ⟨15, [(4, .v (.int .i64 (Int.tmod n 8)))], []⟩ (by kernel_rfl) ?_
    refine doneG (.inl rfl) [.int .i64 (Int.tmod n 8)] [] (by kernel_rfl) rfl rfl (Ge.refl _ _) ?_
    -- end 2 (F)
    have hq_ := Int.mul_tdiv_add_tmod n 8
    have ha_ := Int.lt_tmod_of_pos n (show (0 : Int) < 8 by decide)
    have hb_ := Int.tmod_lt_of_pos n (show (0 : Int) < 8 by decide)
    refine ⟨?_, rfl⟩
    rw [show Int.tmod n 8 = n % 8 by omega]
    rfl

set_option maxHeartbeats 1000000 in
theorem Low24_ok (n : Int) (h : (-9223372036854775808 ≤ n ∧ n ≤ 9223372036854775807)) (G : Mem) : CallsG Try.prog 92 [.int .i64 n, .int .i64 16777216] G (fun _ v rows => v = .int .i64 (n % 16777216) ∧ rows = []) := by
  refine CallsG.enter Try.func92 rfl rfl ?_
  intro w
  refine X.run 20 [1, 4, 5, 10] [] (.code (cA B92 [1, 1, 0, 1])) [.seq (cA B92 [1, 1, 1])] ⟨15, [(1, .v (.int .i64 16777216)), (4, .v (.int .i64 0)), (5, .v (.int .i64 (Int.tmod n 16777216))), (10, .v (.bool (decide (Int.tmod n 16777216 < 0))))], []⟩ (by kernel_rfl) ?_
  refine X.split 10 rfl (fun h1 => ?_) (fun h1 => ?_)
  · -- slot 10: decide (Int.tmod n 16777216 < 0) is True
    replace h1 : Int.tmod n 16777216 < 0 := of_decide_eq_true h1
    refine X.run 15 [4] [] (.ex .ret) [] ⟨15, [(4, .v (.int .i64 (IntKind.i64.wrap ((Int.tmod n 16777216) + 16777216))))], []⟩ (by kernel_rfl) ?_
    refine doneG (.inl rfl) [.int .i64 (IntKind.i64.wrap ((Int.tmod n 16777216) + 16777216))] [] (by kernel_rfl) rfl rfl (Ge.refl _ _) ?_
    -- end 1 (T)
    have hq_ := Int.mul_tdiv_add_tmod n 16777216
    have ha_ := Int.lt_tmod_of_pos n (show (0 : Int) < 16777216 by decide)
    have hb_ := Int.tmod_lt_of_pos n (show (0 : Int) < 16777216 by decide)
    refine ⟨?_, rfl⟩
    rw [show IntKind.i64.wrap (Int.tmod n 16777216 + 16777216) = n % 16777216 by rw [wi64 (by omega) (by omega)]; omega]
    rfl
  · -- slot 10: decide (Int.tmod n 16777216 < 0) is False
    replace h1 : ¬ (Int.tmod n 16777216 < 0) := of_decide_eq_false h1
    refine X.run 10 [4] [] (.ex .ret) [] ⟨15, [(4, .v (.int .i64 (Int.tmod n 16777216)))], []⟩ (by kernel_rfl) ?_
    refine doneG (.inl rfl) [.int .i64 (Int.tmod n 16777216)] [] (by kernel_rfl) rfl rfl (Ge.refl _ _) ?_
    -- end 2 (F)
    have hq_ := Int.mul_tdiv_add_tmod n 16777216
    have ha_ := Int.lt_tmod_of_pos n (show (0 : Int) < 16777216 by decide)
    have hb_ := Int.tmod_lt_of_pos n (show (0 : Int) < 16777216 by decide)
    refine ⟨?_, rfl⟩
    rw [show Int.tmod n 16777216 = n % 16777216 by omega]
    rfl

/-- leat/count.Bytes -/
noncomputable def B93 : Code := bodyOf Try.f93
set_option maxHeartbeats 1000000 in
theorem cBytes_ok (c0 c1 c2 c3 : Int) (G : Mem) : CallsG Try.prog 93 [.agg #[.int .i64 c0, .int .i64 c1, .int .i64 c2, .int .i64 c3]] G (fun _ v rows => v = .agg #[.int .i64 (band .i64 c2 16777215), .int .i64 (band .i64 c1 16777215), .int .i64 (band .i64 c3 16777215)] ∧ rows = []) := by
  refine CallsG.enter Try.func93 rfl rfl ?_
  intro w
  refine X.run 22 [2] [2] (.ex .ret) [] ⟨13, [(2, .own 2 0)], [(2, ⟨70, [.v (.int .i64 (band .i64 c2 16777215)), .v (.int .i64 (band .i64 c1 16777215)), .v (.int .i64 (band .i64 c3 16777215))]⟩)]⟩ (by kernel_rfl) ?_
  refine doneG (.inl rfl) [.agg #[.int .i64 (band .i64 c2 16777215), .int .i64 (band .i64 c1 16777215), .int .i64 (band .i64 c3 16777215)]] [] (by kernel_rfl) rfl rfl (Ge.refl _ _) ?_
  -- end 1 ()
  exact ⟨rfl, rfl⟩

/-- leat/leatref15.Bytes -/
noncomputable def B94 : Code := bodyOf Try.f94
set_option maxHeartbeats 1000000 in
theorem rBytes_ok (c0 c1 c2 c3 : Int) (h0 : (-9223372036854775808 ≤ c0 ∧ c0 ≤ 9223372036854775807)) (h1 : (-9223372036854775808 ≤ c1 ∧ c1 ≤ 9223372036854775807)) (h2 : (-9223372036854775808 ≤ c2 ∧ c2 ≤ 9223372036854775807)) (h3 : (-9223372036854775808 ≤ c3 ∧ c3 ≤ 9223372036854775807)) (G : Mem) : CallsG Try.prog 94 [.agg #[.int .i64 c0, .int .i64 c1, .int .i64 c2, .int .i64 c3]] G (fun _ v rows => v = .agg #[.int .i64 (c2 % 16777216), .int .i64 (c1 % 16777216), .int .i64 (c3 % 16777216)] ∧ rows = []) := by
  refine CallsG.enter Try.func94 rfl rfl ?_
  intro w
  refine X.run 7 [1, 2] [1, 2] (.code (cA B94 [1, 0])) [.seq (cA B94 [1, 1])] ⟨13, [(1, .own 1 0), (2, .own 2 0)], [(1, ⟨131, [.v (.int .i64 c0), .v (.int .i64 c1), .v (.int .i64 c2), .v (.int .i64 c3)]⟩), (2, ⟨70, [.v (.int .i64 0), .v (.int .i64 0), .v (.int .i64 0)]⟩)]⟩ (by kernel_rfl) ?_
  refine XD.open (id := 1) (arr := aA B94 [1, 0]) 11 [⟨some 1, 1, 131, [.v (.int .i64 c0), .v (.int .i64 c1), .v (.int .i64 c2), .v (.int .i64 c3)]⟩] [] [] (by kernel_rfl) (by kernel_rfl) (by kernel_rfl) (by kernel_rfl) (by kernel_rfl) ⟨⟨fun _ h => (by cases h; rfl), rfl⟩, trivial⟩ (by intro p hp hn; simp only [List.mem_cons, List.not_mem_nil, or_false] at hp; rcases hp with rfl <;> first | (cases hn; done) | exact absurd _ (Nat.le_of_ble_eq_true rfl)) rfl (fun ρ0 => ?_)
  refine XD.take (i := 0) (l' := (lb 11 1)) (oA B94 [1, 0] 0) (.own 1 2) QOk.ctxG (by kernel_rfl) (by kernel_rfl) (by kernel_rfl) (by kernel_rfl) (by kernel_rfl) ?_
  refine XD.take (i := 1) (l' := (lb 11 3)) (oA B94 [1, 0] 1) (.v (.int .i64 c2)) QOk.ctxG (by kernel_rfl) (by kernel_rfl) (by kernel_rfl) (by kernel_rfl) (by kernel_rfl) ?_
  refine XD.take (i := 3) (l' := (lb 11 11)) (oA B94 [1, 0] 3) (.own 1 1) QOk.ctxG (by kernel_rfl) (by kernel_rfl) (by kernel_rfl) (by kernel_rfl) (by kernel_rfl) ?_
  refine XD.take (i := 4) (l' := (lb 11 27)) (oA B94 [1, 0] 4) (.v (.int .i64 c1)) QOk.ctxG (by kernel_rfl) (by kernel_rfl) (by kernel_rfl) (by kernel_rfl) (by kernel_rfl) ?_
  refine XD.take (i := 6) (l' := (lb 11 91)) (oA B94 [1, 0] 6) (.own 1 3) QOk.ctxG (by kernel_rfl) (by kernel_rfl) (by kernel_rfl) (by kernel_rfl) (by kernel_rfl) ?_
  refine XD.take (i := 7) (l' := (lb 11 219)) (oA B94 [1, 0] 7) (.v (.int .i64 c3)) QOk.ctxG (by kernel_rfl) (by kernel_rfl) (by kernel_rfl) (by kernel_rfl) (by kernel_rfl) ?_
  refine XD.norm [1, 2, 4, 7, 10] [1, 2] ⟨13, [(1, .own 1 0), (2, .own 2 0), (4, .v (.int .i64 c2)), (7, .v (.int .i64 c1)), (10, .v (.int .i64 c3))], [(1, ⟨131, [.v (.int .i64 c0), .v (.int .i64 c1), .v (.int .i64 c2), .v (.int .i64 c3)]⟩), (2, ⟨70, [.v (.int .i64 0), .v (.int .i64 0), .v (.int .i64 0)]⟩)]⟩ (by kernel_rfl) ⟨⟨fun _ h => (by cases h; rfl), rfl⟩, trivial⟩ ?_
  refine XD.one (i := 2) (l' := (lb 11 223)) (oA B94 [1, 0] 2) (by kernel_rfl) (by kernel_rfl) (by kernel_rfl) ?_
  refine X.callG (f := 92) (l := [.v (.int .i64 c2), .v (.int .i64 16777216)]) [.int .i64 c2, .int .i64 16777216] 0 (by kernel_rfl) (by kernel_rfl) (by kernel_rfl) (Low24_ok c2 (by omega) _) ?_
  rintro v2 G2 rows2 hG2 ⟨rfl, rfl⟩
  refine X.back ⟨⟨⟨fun _ h => (by cases h; rfl), rfl⟩, trivial⟩, hG2.le, rfl, ?_⟩
  refine XD.norm [1, 2, 5, 7, 10] [1, 2] ⟨13, [(1, .own 1 0), (2, .own 2 0), (5, .v (.int .i64 (c2 % 16777216))), (7, .v (.int .i64 c1)), (10, .v (.int .i64 c3))], [(1, ⟨131, [.v (.int .i64 c0), .v (.int .i64 c1), .v (.int .i64 c2), .v (.int .i64 c3)]⟩), (2, ⟨70, [.v (.int .i64 0), .v (.int .i64 0), .v (.int .i64 0)]⟩)]⟩ (by kernel_rfl) ⟨⟨fun _ h => (by cases h; rfl), rfl⟩, trivial⟩ ?_
  refine XD.one (i := 5) (l' := (lb 11 255)) (oA B94 [1, 0] 5) (by kernel_rfl) (by kernel_rfl) (by kernel_rfl) ?_
  refine X.callG (f := 92) (l := [.v (.int .i64 c1), .v (.int .i64 16777216)]) [.int .i64 c1, .int .i64 16777216] 0 (by kernel_rfl) (by kernel_rfl) (by kernel_rfl) (Low24_ok c1 (by omega) _) ?_
  rintro v3 G3 rows3 hG3 ⟨rfl, rfl⟩
  refine X.back ⟨⟨⟨fun _ h => (by cases h; rfl), rfl⟩, trivial⟩, (hG2.trans hG3).le, rfl, ?_⟩
  refine XD.norm [1, 2, 5, 8, 10] [1, 2] ⟨13, [(1, .own 1 0), (2, .own 2 0), (5, .v (.int .i64 (c2 % 16777216))), (8, .v (.int .i64 (c1 % 16777216))), (10, .v (.int .i64 c3))], [(1, ⟨131, [.v (.int .i64 c0), .v (.int .i64 c1), .v (.int .i64 c2), .v (.int .i64 c3)]⟩), (2, ⟨70, [.v (.int .i64 0), .v (.int .i64 0), .v (.int .i64 0)]⟩)]⟩ (by kernel_rfl) ⟨⟨fun _ h => (by cases h; rfl), rfl⟩, trivial⟩ ?_
  refine XD.one (i := 8) (l' := (lb 11 511)) (oA B94 [1, 0] 8) (by kernel_rfl) (by kernel_rfl) (by kernel_rfl) ?_
  refine X.callG (f := 92) (l := [.v (.int .i64 c3), .v (.int .i64 16777216)]) [.int .i64 c3, .int .i64 16777216] 0 (by kernel_rfl) (by kernel_rfl) (by kernel_rfl) (Low24_ok c3 (by omega) _) ?_
  rintro v4 G4 rows4 hG4 ⟨rfl, rfl⟩
  refine X.back ⟨⟨⟨fun _ h => (by cases h; rfl), rfl⟩, trivial⟩, ((hG2.trans hG3).trans hG4).le, rfl, ?_⟩
  refine XD.take (i := 9) (l' := (lb 11 1023)) (oA B94 [1, 0] 9) (.v (.agg #[.int .i64 (c2 % 16777216), .int .i64 (c1 % 16777216), .int .i64 (c3 % 16777216)])) QOk.ctxG (by kernel_rfl) (by kernel_rfl) (by kernel_rfl) (by kernel_rfl) (by kernel_rfl) ?_
  refine XD.norm [1, 2, 12] [1, 2] ⟨13, [(1, .own 1 0), (2, .own 2 0), (12, .v (.agg #[.int .i64 (c2 % 16777216), .int .i64 (c1 % 16777216), .int .i64 (c3 % 16777216)]))], [(1, ⟨131, [.v (.int .i64 c0), .v (.int .i64 c1), .v (.int .i64 c2), .v (.int .i64 c3)]⟩), (2, ⟨70, [.v (.int .i64 0), .v (.int .i64 0), .v (.int .i64 0)]⟩)]⟩ (by kernel_rfl) ⟨⟨fun _ h => (by cases h; rfl), rfl⟩, trivial⟩ ?_
  refine XD.one (i := 10) (l' := (lb 11 2047)) (oA B94 [1, 0] 10) (by kernel_rfl) (by kernel_rfl) (by kernel_rfl) ?_
  refine X.simple (by kernel_rfl) ?_
  refine X.back ⟨⟨⟨fun _ h => (by cases h; rfl), rfl⟩, trivial⟩, ((hG2.trans hG3).trans hG4).le, rfl, ?_⟩
  refine XD.done (by kernel_rfl) ?_
  refine X.run 2 [2] [2] (.ex .ret) [] ⟨13, [(2, .own 2 0)], [(2, ⟨70, [.v (.int .i64 (c2 % 16777216)), .v (.int .i64 (c1 % 16777216)), .v (.int .i64 (c3 % 16777216))]⟩)]⟩ (by kernel_rfl) ?_
  refine doneG (.inl rfl) [.agg #[.int .i64 (c2 % 16777216), .int .i64 (c1 % 16777216), .int .i64 (c3 % 16777216)]] [] (by kernel_rfl) rfl rfl (((hG2.trans hG3).trans hG4)) ?_
  -- end 1 ()
  exact ⟨rfl, rfl⟩
end Go.Proofs.YtjgpdbkkpomhjaaX
