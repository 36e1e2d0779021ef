/- leatlaw15.CountTells -/
import Derived.Test.YtjgpdbkkpomhjaaProg
import Derived.KernelRfl
import Derived.Test.YtjgpdbkkpomhjaaXC6
import Derived.Test.YtjgpdbkkpomhjaaXM
namespace Go.Proofs.YtjgpdbkkpomhjaaX
open Go.RowKit
set_option linter.unusedVariables false
set_option linter.unusedSimpArgs false
set_option maxRecDepth 100000
theorem tmod_ev {n : Int} (h : n % 2 = 0) : Int.tmod n 2 = 0 := by
  have h1 := Int.mul_tdiv_add_tmod n 2
  have h2 := Int.tmod_lt_of_pos n (show (0 : Int) < 2 by decide)
  have h3 := Int.lt_tmod_of_pos n (show (0 : Int) < 2 by decide)
  omega
theorem tmod_od {n : Int} (h : ¬ n % 2 = 0) : Int.tmod n 2 ≠ 0 := by
  have h1 := Int.mul_tdiv_add_tmod n 2
  have h2 := Int.tmod_lt_of_pos n (show (0 : Int) < 2 by decide)
  have h3 := Int.lt_tmod_of_pos n (show (0 : Int) < 2 by decide)
  omega

/-- leat/leatlaw15.CountTells -/
noncomputable def B27 : Code := bodyOf Try.f27
set_option maxHeartbeats 1000000 in
theorem CountTells_ok (u0 u1 u2 u3 n : Int) (h0 : (-9223372036854775808 ≤ u0 ∧ u0 ≤ 9223372036854775807)) (h1 : (-9223372036854775808 ≤ u1 ∧ u1 ≤ 9223372036854775807)) (h2 : (-9223372036854775808 ≤ u2 ∧ u2 ≤ 9223372036854775807)) (h3 : (-9223372036854775808 ≤ u3 ∧ u3 ≤ 9223372036854775807)) (G : Mem) : CallsG Try.prog 27 [.agg #[.int .i64 u0, .int .i64 u1, .int .i64 u2, .int .i64 u3], .int .i64 n] G (fun _ v rows => v = .bool true ∧ rows = []) := by
  refine CallsG.enter Try.func27 rfl rfl ?_
  intro w
  refine X.run 10 [1, 2, 4, 6, 7] [2] (.ops (aA B27 [1, 0]) (oA B27 [1, 0] 2 :: lA B27 [1, 0] 3)) [.seq (cA B27 [1, 1])] ⟨40, [(1, .v (.int .i64 n)), (2, .own 2 0), (4, .v (.bool false)), (6, .v (.agg #[.int .i64 u0, .int .i64 u1, .int .i64 u2, .int .i64 u3])), (7, .v (.int .i64 n))], [(2, ⟨131, [.v (.int .i64 u0), .v (.int .i64 u1), .v (.int .i64 u2), .v (.int .i64 u3)]⟩)]⟩ (by kernel_rfl) ?_
  refine X.callG (f := 90) (l := [.v (.agg #[.int .i64 u0, .int .i64 u1, .int .i64 u2, .int .i64 u3]), .v (.int .i64 n)]) [.agg #[.int .i64 u0, .int .i64 u1, .int .i64 u2, .int .i64 u3], .int .i64 n] 608 (by kernel_rfl) (by kernel_rfl) (by kernel_rfl) (cOption_ok u0 u1 u2 u3 n (by omega) (by omega) (by omega) (by omega) _) ?_
  rintro v1 G1 rows1 hG1 ⟨hE1, hO1⟩
  by_cases hpar : n % 2 = 0
  · -- even True
    obtain ⟨A1, c1, rfl, hc1, rfl⟩ := hE1 hpar
    refine X.asR (R' := [(608, ⟨29, 1, .slice A1 3 c1, 3, [.int .u32 (u2 % 16777216), .int .u32 (u1 % 16777216), .int .u32 (u3 % 16777216)]⟩)]) rfl ?_
    refine X.run 5 [1, 2, 4, 5] [2, 5] (.code (cA B27 [1, 1, 0])) [.seq (cA B27 [1, 1, 1])] ⟨40, [(1, .v (.int .i64 n)), (2, .own 2 0), (4, .v (.bool false)), (5, .own 5 0)], [(2, ⟨131, [.v (.int .i64 u0), .v (.int .i64 u1), .v (.int .i64 u2), .v (.int .i64 u3)]⟩), (5, ⟨65, [.v (.int .i64 172), .v (.slice A1 3 c1), .v (.string (⟨#[]⟩))]⟩)]⟩ (by kernel_rfl) ?_
    refine XD.open (id := 2) (arr := aA B27 [1, 1, 0]) 32 [⟨some 2, 2, 131, [.v (.int .i64 u0), .v (.int .i64 u1), .v (.int .i64 u2), .v (.int .i64 u3)]⟩, ⟨some 5, 5, 65, [.v (.int .i64 172), .v (.slice A1 3 c1), .v (.string (⟨#[]⟩))]⟩] [] [] (by kernel_rfl) (by kernel_rfl) (by kernel_rfl) (by kernel_rfl) (by kernel_rfl) ⟨⟨fun _ h => (by cases h; rfl), rfl⟩, ⟨fun _ h => (by cases h; rfl), rfl⟩, trivial⟩ (by intro p hp hn; simp only [List.mem_cons, List.not_mem_nil, or_false] at hp; rcases hp with rfl | rfl <;> first | (cases hn; done) | exact absurd _ (Nat.le_of_ble_eq_true rfl)) rfl (fun ρ0 => ?_)
    refine XD.take (i := 0) (l' := (lb 32 1)) (oA B27 [1, 1, 0] 0) (.v (.agg #[.int .i64 u0, .int .i64 u1, .int .i64 u2, .int .i64 u3])) QOk.ctxG (by kernel_rfl) (by kernel_rfl) (by kernel_rfl) (by kernel_rfl) (by kernel_rfl) ?_
    refine XD.take (i := 3) (l' := (lb 32 9)) (oA B27 [1, 1, 0] 3) (.own 2 0) QOk.ctxG (by kernel_rfl) (by kernel_rfl) (by kernel_rfl) (by kernel_rfl) (by kernel_rfl) ?_
    refine XD.take (i := 4) (l' := (lb 32 25)) (oA B27 [1, 1, 0] 4) (.v (.int .i64 u0)) QOk.ctxG (by kernel_rfl) (by kernel_rfl) (by kernel_rfl) (by kernel_rfl) (by kernel_rfl) ?_
    refine XD.norm [1, 2, 4, 5, 9, 13] [2, 5] ⟨40, [(1, .v (.int .i64 n)), (2, .own 2 0), (4, .v (.bool false)), (5, .own 5 0), (9, .v (.agg #[.int .i64 u0, .int .i64 u1, .int .i64 u2, .int .i64 u3])), (13, .v (.int .i64 u0))], [(2, ⟨131, [.v (.int .i64 u0), .v (.int .i64 u1), .v (.int .i64 u2), .v (.int .i64 u3)]⟩), (5, ⟨65, [.v (.int .i64 172), .v (.slice A1 3 c1), .v (.string (⟨#[]⟩))]⟩)]⟩ (by kernel_rfl) ⟨⟨fun _ h => (by cases h; rfl), rfl⟩, ⟨fun _ h => (by cases h; rfl), rfl⟩, trivial⟩ ?_
    refine XD.one (i := 1) (l' := (lb 32 27)) (oA B27 [1, 1, 0] 1) (by kernel_rfl) (by kernel_rfl) (by kernel_rfl) ?_
    refine X.callG (f := 91) (l := [.v (.agg #[.int .i64 u0, .int .i64 u1, .int .i64 u2, .int .i64 u3])]) [.agg #[.int .i64 u0, .int .i64 u1, .int .i64 u2, .int .i64 u3]] 0 (by kernel_rfl) (by kernel_rfl) (by kernel_rfl) (cAce_ok u0 u1 u2 u3 _) ?_
    rintro v3 G3 rows3 hG3 ⟨rfl, rfl⟩
    refine X.back ⟨⟨⟨fun _ h => (by cases h; rfl), rfl⟩, ⟨fun _ h => (by cases h; rfl), rfl⟩, trivial⟩, hG3.le, rfl, ?_⟩
    refine XD.take (i := 2) (l' := (lb 32 31)) (oA B27 [1, 1, 0] 2) (.v (.int .i64 (IntKind.i64.wrap (IntKind.u8.wrap (band .i64 u0 7))))) QOk.ctxG (by kernel_rfl) (by kernel_rfl) (by kernel_rfl) (by kernel_rfl) (by kernel_rfl) ?_
    refine XD.norm [1, 2, 4, 5, 11, 13] [2, 5] ⟨40, [(1, .v (.int .i64 n)), (2, .own 2 0), (4, .v (.bool false)), (5, .own 5 0), (11, .v (.int .i64 (IntKind.i64.wrap (IntKind.u8.wrap (band .i64 u0 7))))), (13, .v (.int .i64 u0))], [(2, ⟨131, [.v (.int .i64 u0), .v (.int .i64 u1), .v (.int .i64 u2), .v (.int .i64 u3)]⟩), (5, ⟨65, [.v (.int .i64 172), .v (.slice A1 3 c1), .v (.string (⟨#[]⟩))]⟩)]⟩ (by kernel_rfl) ⟨⟨fun _ h => (by cases h; rfl), rfl⟩, ⟨fun _ h => (by cases h; rfl), rfl⟩, trivial⟩ ?_
    refine XD.one (i := 5) (l' := (lb 32 63)) (oA B27 [1, 1, 0] 5) (by kernel_rfl) (by kernel_rfl) (by kernel_rfl) ?_
    refine X.callG (f := 92) (l := [.v (.int .i64 u0), .v (.int .i64 8)]) [.int .i64 u0, .int .i64 8] 0 (by kernel_rfl) (by kernel_rfl) (by kernel_rfl) (Low8_ok u0 (by omega) _) ?_
    rintro v4 G4 rows4 hG4 ⟨rfl, rfl⟩
    refine X.back ⟨⟨⟨fun _ h => (by cases h; rfl), rfl⟩, ⟨fun _ h => (by cases h; rfl), rfl⟩, trivial⟩, (hG3.trans hG4).le, rfl, ?_⟩
    refine XD.take (i := 6) (l' := (lb 32 127)) (oA B27 [1, 1, 0] 6) (.v (.bool ((IntKind.i64.wrap (IntKind.u8.wrap (band .i64 u0 7))) == (u0 % 8)))) QOk.ctxG (by kernel_rfl) (by kernel_rfl) (by kernel_rfl) (by kernel_rfl) (by kernel_rfl) ?_
    refine XD.take (i := 7) (l' := (lb 32 255)) (oA B27 [1, 1, 0] 7) (.v (.bool ((IntKind.i64.wrap (IntKind.u8.wrap (band .i64 u0 7))) == (u0 % 8)))) QOk.ctxG (by kernel_rfl) (by kernel_rfl) (by kernel_rfl) (by kernel_rfl) (by kernel_rfl) ?_
    refine XD.isTrue 16 rfl (by rw [band7S, wu8 (by omega) (by omega), wi64 (by omega) (by omega)]; simp) ?_
    refine XD.take (i := 8) (l' := (lb 32 511)) (oA B27 [1, 1, 0] 8) (.v (.agg #[.int .i64 u0, .int .i64 u1, .int .i64 u2, .int .i64 u3])) QOk.ctxG (by kernel_rfl) (by kernel_rfl) (by kernel_rfl) (by kernel_rfl) (by kernel_rfl) ?_
    refine XD.take (i := 10) (l' := (lb 32 1535)) (oA B27 [1, 1, 0] 10) (.v (.agg #[.int .i64 u0, .int .i64 u1, .int .i64 u2, .int .i64 u3])) QOk.ctxG (by kernel_rfl) (by kernel_rfl) (by kernel_rfl) (by kernel_rfl) (by kernel_rfl) ?_
    refine XD.norm [1, 2, 4, 5, 16, 17, 19] [2, 5] ⟨40, [(1, .v (.int .i64 n)), (2, .own 2 0), (4, .v (.bool false)), (5, .own 5 0), (16, .v (.bool true)), (17, .v (.agg #[.int .i64 u0, .int .i64 u1, .int .i64 u2, .int .i64 u3])), (19, .v (.agg #[.int .i64 u0, .int .i64 u1, .int .i64 u2, .int .i64 u3]))], [(2, ⟨131, [.v (.int .i64 u0), .v (.int .i64 u1), .v (.int .i64 u2), .v (.int .i64 u3)]⟩), (5, ⟨65, [.v (.int .i64 172), .v (.slice A1 3 c1), .v (.string (⟨#[]⟩))]⟩)]⟩ (by kernel_rfl) ⟨⟨fun _ h => (by cases h; rfl), rfl⟩, ⟨fun _ h => (by cases h; rfl), rfl⟩, trivial⟩ ?_
    refine XD.one (i := 9) (l' := (lb 32 2047)) (oA B27 [1, 1, 0] 9) (by kernel_rfl) (by kernel_rfl) (by kernel_rfl) ?_
    refine X.callG (f := 93) (l := [.v (.agg #[.int .i64 u0, .int .i64 u1, .int .i64 u2, .int .i64 u3])]) [.agg #[.int .i64 u0, .int .i64 u1, .int .i64 u2, .int .i64 u3]] 0 (by kernel_rfl) (by kernel_rfl) (by kernel_rfl) (cBytes_ok u0 u1 u2 u3 _) ?_
    rintro v5 G5 rows5 hG5 ⟨rfl, rfl⟩
    refine X.back ⟨⟨⟨fun _ h => (by cases h; rfl), rfl⟩, ⟨fun _ h => (by cases h; rfl), rfl⟩, trivial⟩, ((hG3.trans hG4).trans hG5).le, rfl, ?_⟩
    refine XD.norm [1, 2, 4, 5, 16, 18, 19] [2, 5] ⟨40, [(1, .v (.int .i64 n)), (2, .own 2 0), (4, .v (.bool false)), (5, .own 5 0), (16, .v (.bool true)), (18, .v (.agg #[.int .i64 (band .i64 u2 16777215), .int .i64 (band .i64 u1 16777215), .int .i64 (band .i64 u3 16777215)])), (19, .v (.agg #[.int .i64 u0, .int .i64 u1, .int .i64 u2, .int .i64 u3]))], [(2, ⟨131, [.v (.int .i64 u0), .v (.int .i64 u1), .v (.int .i64 u2), .v (.int .i64 u3)]⟩), (5, ⟨65, [.v (.int .i64 172), .v (.slice A1 3 c1), .v (.string (⟨#[]⟩))]⟩)]⟩ (by kernel_rfl) ⟨⟨fun _ h => (by cases h; rfl), rfl⟩, ⟨fun _ h => (by cases h; rfl), rfl⟩, trivial⟩ ?_
    refine XD.one (i := 11) (l' := (lb 32 4095)) (oA B27 [1, 1, 0] 11) (by kernel_rfl) (by kernel_rfl) (by kernel_rfl) ?_
    refine X.callG (f := 94) (l := [.v (.agg #[.int .i64 u0, .int .i64 u1, .int .i64 u2, .int .i64 u3])]) [.agg #[.int .i64 u0, .int .i64 u1, .int .i64 u2, .int .i64 u3]] 0 (by kernel_rfl) (by kernel_rfl) (by kernel_rfl) (rBytes_ok u0 u1 u2 u3 (by omega) (by omega) (by omega) (by omega) _) ?_
    rintro v6 G6 rows6 hG6 ⟨rfl, rfl⟩
    refine X.back ⟨⟨⟨fun _ h => (by cases h; rfl), rfl⟩, ⟨fun _ h => (by cases h; rfl), rfl⟩, trivial⟩, (((hG3.trans hG4).trans hG5).trans hG6).le, rfl, ?_⟩
    refine XD.norm [1, 2, 4, 5, 16, 18, 20] [2, 5] ⟨40, [(1, .v (.int .i64 n)), (2, .own 2 0), (4, .v (.bool false)), (5, .own 5 0), (16, .v (.bool true)), (18, .v (.agg #[.int .i64 (band .i64 u2 16777215), .int .i64 (band .i64 u1 16777215), .int .i64 (band .i64 u3 16777215)])), (20, .v (.agg #[.int .i64 (u2 % 16777216), .int .i64 (u1 % 16777216), .int .i64 (u3 % 16777216)]))], [(2, ⟨131, [.v (.int .i64 u0), .v (.int .i64 u1), .v (.int .i64 u2), .v (.int .i64 u3)]⟩), (5, ⟨65, [.v (.int .i64 172), .v (.slice A1 3 c1), .v (.string (⟨#[]⟩))]⟩)]⟩ (by kernel_rfl) ⟨⟨fun _ h => (by cases h; rfl), rfl⟩, ⟨fun _ h => (by cases h; rfl), rfl⟩, trivial⟩ ?_
    refine XD.one (i := 12) (l' := (lb 32 8191)) (oA B27 [1, 1, 0] 12) (by kernel_rfl) (by kernel_rfl) (by kernel_rfl) ?_
    refine X.eqV (t := 70) (t' := 70) (x := .tmp 18) (y := .tmp 20) (xs := #[.int .i64 (band .i64 u2 16777215), .int .i64 (band .i64 u1 16777215), .int .i64 (band .i64 u3 16777215)]) (ys := #[.int .i64 (u2 % 16777216), .int .i64 (u1 % 16777216), .int .i64 (u3 % 16777216)]) (b := (((band .i64 u2 16777215 : Int) == (u2 % 16777216)) && (((band .i64 u1 16777215 : Int) == (u1 % 16777216)) && (((band .i64 u3 16777215 : Int) == (u3 % 16777216)) && true)))) (by kernel_rfl) (by kernel_rfl) (by kernel_rfl) (by kernel_rfl) (by kernel_rfl) (by kernel_rfl) ?_
    refine X.back ⟨⟨⟨fun _ h => (by cases h; rfl), rfl⟩, ⟨fun _ h => (by cases h; rfl), rfl⟩, trivial⟩, (((hG3.trans hG4).trans hG5).trans hG6).le, rfl, ?_⟩
    refine XD.take (i := 13) (l' := (lb 32 16383)) (oA B27 [1, 1, 0] 13) (.v (.bool (((band .i64 u2 16777215 : Int) == (u2 % 16777216)) && (((band .i64 u1 16777215 : Int) == (u1 % 16777216)) && (((band .i64 u3 16777215 : Int) == (u3 % 16777216)) && true))))) QOk.ctxG (by kernel_rfl) (by kernel_rfl) (by kernel_rfl) (by kernel_rfl) (by kernel_rfl) ?_
    refine XD.take (i := 14) (l' := (lb 32 32767)) (oA B27 [1, 1, 0] 14) (.v (.bool (((band .i64 u2 16777215 : Int) == (u2 % 16777216)) && (((band .i64 u1 16777215 : Int) == (u1 % 16777216)) && (((band .i64 u3 16777215 : Int) == (u3 % 16777216)) && true))))) QOk.ctxG (by kernel_rfl) (by kernel_rfl) (by kernel_rfl) (by kernel_rfl) (by kernel_rfl) ?_
    refine XD.isTrue 23 rfl (by rw [band24S, band24S, band24S]; simp) ?_
    refine XD.take (i := 15) (l' := (lb 32 65535)) (oA B27 [1, 1, 0] 15) (.v (.agg #[.int .i64 172, .slice A1 3 c1, .string (⟨#[]⟩)])) QOk.ctxG (by kernel_rfl) (by kernel_rfl) (by kernel_rfl) (by kernel_rfl) (by kernel_rfl) ?_
    refine XD.take (i := 16) (l' := (lb 32 131071)) (oA B27 [1, 1, 0] 16) (.v (.agg #[.int .i64 u0, .int .i64 u1, .int .i64 u2, .int .i64 u3])) QOk.ctxG (by kernel_rfl) (by kernel_rfl) (by kernel_rfl) (by kernel_rfl) (by kernel_rfl) ?_
    refine XD.take (i := 17) (l' := (lb 32 262143)) (oA B27 [1, 1, 0] 17) (.v (.int .i64 n)) QOk.ctxG (by kernel_rfl) (by kernel_rfl) (by kernel_rfl) (by kernel_rfl) (by kernel_rfl) ?_
    refine XD.norm [2, 4, 5, 23, 24, 25, 26] [2, 5] ⟨40, [(2, .own 2 0), (4, .v (.bool false)), (5, .own 5 0), (23, .v (.bool true)), (24, .v (.agg #[.int .i64 172, .slice A1 3 c1, .string (⟨#[]⟩)])), (25, .v (.agg #[.int .i64 u0, .int .i64 u1, .int .i64 u2, .int .i64 u3])), (26, .v (.int .i64 n))], [(2, ⟨131, [.v (.int .i64 u0), .v (.int .i64 u1), .v (.int .i64 u2), .v (.int .i64 u3)]⟩), (5, ⟨65, [.v (.int .i64 172), .v (.slice A1 3 c1), .v (.string (⟨#[]⟩))]⟩)]⟩ (by kernel_rfl) ⟨⟨fun _ h => (by cases h; rfl), rfl⟩, ⟨fun _ h => (by cases h; rfl), rfl⟩, trivial⟩ ?_
    refine XD.one (i := 18) (l' := (lb 32 524287)) (oA B27 [1, 1, 0] 18) (by kernel_rfl) (by kernel_rfl) (by kernel_rfl) ?_
    refine X.callG (f := 95) (l := [.v (.agg #[.int .i64 u0, .int .i64 u1, .int .i64 u2, .int .i64 u3]), .v (.int .i64 n)]) [.agg #[.int .i64 u0, .int .i64 u1, .int .i64 u2, .int .i64 u3], .int .i64 n] 627 (by kernel_rfl) (by kernel_rfl) (by kernel_rfl) (rOption_ok u0 u1 u2 u3 n (by omega) (by omega) (by omega) (by omega) _) ?_
    rintro v7 G7 rows7 hG7 ⟨hE7, hO7⟩
    obtain ⟨A7, c7, rfl, hc7, rfl⟩ := hE7 (tmod_ev hpar)
    refine X.asR (R' := [(627, ⟨29, 1, .slice A7 3 c7, 3, [.int .u32 (u2 % 16777216), .int .u32 (u1 % 16777216), .int .u32 (u3 % 16777216)]⟩), (608, ⟨29, 1, .slice A1 3 c1, 3, [.int .u32 (u2 % 16777216), .int .u32 (u1 % 16777216), .int .u32 (u3 % 16777216)]⟩)]) rfl ?_
    refine X.back ⟨⟨⟨fun _ h => (by cases h; rfl), rfl⟩, ⟨fun _ h => (by cases h; rfl), rfl⟩, trivial⟩, ((((hG3.trans hG4).trans hG5).trans hG6).trans hG7).le, rfl, ?_⟩
    refine XD.norm [2, 4, 5, 23, 24, 27] [2, 5] ⟨40, [(2, .own 2 0), (4, .v (.bool false)), (5, .own 5 0), (23, .v (.bool true)), (24, .v (.agg #[.int .i64 172, .slice A1 3 c1, .string (⟨#[]⟩)])), (27, .v (.agg #[.int .i64 172, .slice A7 3 c7, .string (⟨#[]⟩)]))], [(2, ⟨131, [.v (.int .i64 u0), .v (.int .i64 u1), .v (.int .i64 u2), .v (.int .i64 u3)]⟩), (5, ⟨65, [.v (.int .i64 172), .v (.slice A1 3 c1), .v (.string (⟨#[]⟩))]⟩)]⟩ (by kernel_rfl) ⟨⟨fun _ h => (by cases h; rfl), rfl⟩, ⟨fun _ h => (by cases h; rfl), rfl⟩, trivial⟩ ?_
    refine XD.one (i := 19) (l' := (lb 32 1048575)) (oA B27 [1, 1, 0] 19) (by kernel_rfl) (by kernel_rfl) (by kernel_rfl) ?_
    refine X.tellR [608, 627] (R' := [(608, ⟨29, 1, .slice A1 3 c1, 3, [.int .u32 (u2 % 16777216), .int .u32 (u1 % 16777216), .int .u32 (u3 % 16777216)]⟩), (627, ⟨29, 1, .slice A7 3 c7, 3, [.int .u32 (u2 % 16777216), .int .u32 (u1 % 16777216), .int .u32 (u3 % 16777216)]⟩)]) rfl ?_
    refine X.capLe (i := 608) (q := ⟨29, 1, .slice A1 3 c1, 3, [.int .u32 (u2 % 16777216), .int .u32 (u1 % 16777216), .int .u32 (u3 % 16777216)]⟩) (n := 3) (c := c1) (A := A1) rfl rfl ?_
    intro hle8 hmx8
    refine X.freezeHd (i := 608) (n := 3) (c := c1) (A := A1) (kd := .u32) ([u2 % 16777216, u1 % 16777216, u3 % 16777216]) rfl rfl (by intro x_ hx_; simp only [List.mem_cons, List.not_mem_nil, or_false] at hx_; simp only [IntKind.lo, IntKind.hi]; omega) (by kernel_rfl) (fun _ h => h) ?_
    intro G8 hG8 hr8
    refine X.tellR [627] (R' := [(627, ⟨29, 1, .slice A7 3 c7, 3, [.int .u32 (u2 % 16777216), .int .u32 (u1 % 16777216), .int .u32 (u3 % 16777216)]⟩)]) rfl ?_
    refine X.capLe (i := 627) (q := ⟨29, 1, .slice A7 3 c7, 3, [.int .u32 (u2 % 16777216), .int .u32 (u1 % 16777216), .int .u32 (u3 % 16777216)]⟩) (n := 3) (c := c7) (A := A7) rfl rfl ?_
    intro hle9 hmx9
    refine X.freezeHd (i := 627) (n := 3) (c := c7) (A := A7) (kd := .u32) ([u2 % 16777216, u1 % 16777216, u3 % 16777216]) rfl rfl (by intro x_ hx_; simp only [List.mem_cons, List.not_mem_nil, or_false] at hx_; simp only [IntKind.lo, IntKind.hi]; omega) (by kernel_rfl) (fun _ h => h) ?_
    intro G9 hG9 hr9
    replace hr8 := hr8.mono hG9.le
    refine X.callG (f := 52) (l := [.v (.agg #[.int .i64 172, .slice A1 3 c1, .string (⟨#[]⟩)]), .v (.agg #[.int .i64 172, .slice A7 3 c7, .string (⟨#[]⟩)])]) [.agg #[.int .i64 172, .slice A1 3 c1, .string (⟨#[]⟩)], .agg #[.int .i64 172, .slice A7 3 c7, .string (⟨#[]⟩)]] 0 (by kernel_rfl) (by kernel_rfl) (by kernel_rfl) (Same_ok 172 172 A1 A7 c1 c7 [u2 % 16777216, u1 % 16777216, u3 % 16777216] [u2 % 16777216, u1 % 16777216, u3 % 16777216] (⟨#[]⟩) (⟨#[]⟩) _ hr8 hr9 hle8 hle9 hmx8 hmx9) ?_
    rintro v10 G10 rows10 hG10 ⟨rfl, rfl⟩
    replace hr8 := hr8.mono hG10.le
    replace hr9 := hr9.mono hG10.le
    refine X.back ⟨⟨⟨fun _ h => (by cases h; rfl), rfl⟩, ⟨fun _ h => (by cases h; rfl), rfl⟩, trivial⟩, (((((((hG3.trans hG4).trans hG5).trans hG6).trans hG7).trans hG8).trans hG9).trans hG10).le, rfl, ?_⟩
    refine XD.take (i := 20) (l' := (lb 32 2097151)) (oA B27 [1, 1, 0] 20) (.v (.bool (decide ((172 : Int) = 172 ∧ (⟨#[]⟩ : ByteArray) = ⟨#[]⟩ ∧ ([u2 % 16777216, u1 % 16777216, u3 % 16777216] : List Int) = [u2 % 16777216, u1 % 16777216, u3 % 16777216])))) QOk.ctxG (by kernel_rfl) (by kernel_rfl) (by kernel_rfl) (by kernel_rfl) (by kernel_rfl) ?_
    refine XD.take (i := 21) (l' := (lb 32 4194303)) (oA B27 [1, 1, 0] 21) (.v (.bool (decide ((172 : Int) = 172 ∧ (⟨#[]⟩ : ByteArray) = ⟨#[]⟩ ∧ ([u2 % 16777216, u1 % 16777216, u3 % 16777216] : List Int) = [u2 % 16777216, u1 % 16777216, u3 % 16777216])))) QOk.ctxG (by kernel_rfl) (by kernel_rfl) (by kernel_rfl) (by kernel_rfl) (by kernel_rfl) ?_
    refine XD.isTrue 30 rfl (by simp) ?_
    refine XD.take (i := 22) (l' := (lb 32 8388607)) (oA B27 [1, 1, 0] 22) (.v (.agg #[.int .i64 172, .slice A1 3 c1, .string (⟨#[]⟩)])) QOk.ctxG (by kernel_rfl) (by kernel_rfl) (by kernel_rfl) (by kernel_rfl) (by kernel_rfl) ?_
    refine XD.take (i := 24) (l' := (lb 32 25165823)) (oA B27 [1, 1, 0] 24) (.v (.agg #[.int .i64 u0, .int .i64 u1, .int .i64 u2, .int .i64 u3])) QOk.ctxG (by kernel_rfl) (by kernel_rfl) (by kernel_rfl) (by kernel_rfl) (by kernel_rfl) ?_
    refine XD.norm [2, 4, 5, 30, 31, 33] [2, 5] ⟨40, [(2, .own 2 0), (4, .v (.bool false)), (5, .own 5 0), (30, .v (.bool true)), (31, .v (.agg #[.int .i64 172, .slice A1 3 c1, .string (⟨#[]⟩)])), (33, .v (.agg #[.int .i64 u0, .int .i64 u1, .int .i64 u2, .int .i64 u3]))], [(2, ⟨131, [.v (.int .i64 u0), .v (.int .i64 u1), .v (.int .i64 u2), .v (.int .i64 u3)]⟩), (5, ⟨65, [.v (.int .i64 172), .v (.slice A1 3 c1), .v (.string (⟨#[]⟩))]⟩)]⟩ (by kernel_rfl) ⟨⟨fun _ h => (by cases h; rfl), rfl⟩, ⟨fun _ h => (by cases h; rfl), rfl⟩, trivial⟩ ?_
    refine XD.one (i := 23) (l' := (lb 32 33554431)) (oA B27 [1, 1, 0] 23) (by kernel_rfl) (by kernel_rfl) (by kernel_rfl) ?_
    refine X.callG (f := 54) (l := [.v (.agg #[.int .i64 172, .slice A1 3 c1, .string (⟨#[]⟩)])]) [.agg #[.int .i64 172, .slice A1 3 c1, .string (⟨#[]⟩)]] 0 (by kernel_rfl) (by kernel_rfl) (by kernel_rfl) (Counters_ok 172 A1 c1 [u2 % 16777216, u1 % 16777216, u3 % 16777216] (⟨#[]⟩) _ hr8 hle8 hmx8) ?_
    rintro v11 G11 rows11 hG11 ⟨rfl, rfl⟩
    replace hr8 := hr8.mono hG11.le
    replace hr9 := hr9.mono hG11.le
    refine X.back ⟨⟨⟨fun _ h => (by cases h; rfl), rfl⟩, ⟨fun _ h => (by cases h; rfl), rfl⟩, trivial⟩, ((((((((hG3.trans hG4).trans hG5).trans hG6).trans hG7).trans hG8).trans hG9).trans hG10).trans hG11).le, rfl, ?_⟩
    refine XD.norm [2, 4, 5, 30, 32, 33] [2, 5] ⟨40, [(2, .own 2 0), (4, .v (.bool false)), (5, .own 5 0), (30, .v (.bool true)), (32, .v (.agg #[.int .i64 (ct 172 [u2 % 16777216, u1 % 16777216, u3 % 16777216] 0), .int .i64 (ct 172 [u2 % 16777216, u1 % 16777216, u3 % 16777216] 1), .int .i64 (ct 172 [u2 % 16777216, u1 % 16777216, u3 % 16777216] 2)])), (33, .v (.agg #[.int .i64 u0, .int .i64 u1, .int .i64 u2, .int .i64 u3]))], [(2, ⟨131, [.v (.int .i64 u0), .v (.int .i64 u1), .v (.int .i64 u2), .v (.int .i64 u3)]⟩), (5, ⟨65, [.v (.int .i64 172), .v (.slice A1 3 c1), .v (.string (⟨#[]⟩))]⟩)]⟩ (by kernel_rfl) ⟨⟨fun _ h => (by cases h; rfl), rfl⟩, ⟨fun _ h => (by cases h; rfl), rfl⟩, trivial⟩ ?_
    refine XD.one (i := 25) (l' := (lb 32 67108863)) (oA B27 [1, 1, 0] 25) (by kernel_rfl) (by kernel_rfl) (by kernel_rfl) ?_
    refine X.callG (f := 94) (l := [.v (.agg #[.int .i64 u0, .int .i64 u1, .int .i64 u2, .int .i64 u3])]) [.agg #[.int .i64 u0, .int .i64 u1, .int .i64 u2, .int .i64 u3]] 0 (by kernel_rfl) (by kernel_rfl) (by kernel_rfl) (rBytes_ok u0 u1 u2 u3 (by omega) (by omega) (by omega) (by omega) _) ?_
    rintro v12 G12 rows12 hG12 ⟨rfl, rfl⟩
    replace hr8 := hr8.mono hG12.le
    replace hr9 := hr9.mono hG12.le
    refine X.back ⟨⟨⟨fun _ h => (by cases h; rfl), rfl⟩, ⟨fun _ h => (by cases h; rfl), rfl⟩, trivial⟩, (((((((((hG3.trans hG4).trans hG5).trans hG6).trans hG7).trans hG8).trans hG9).trans hG10).trans hG11).trans hG12).le, rfl, ?_⟩
    refine XD.norm [2, 4, 5, 30, 32, 34] [2, 5] ⟨40, [(2, .own 2 0), (4, .v (.bool false)), (5, .own 5 0), (30, .v (.bool true)), (32, .v (.agg #[.int .i64 (ct 172 [u2 % 16777216, u1 % 16777216, u3 % 16777216] 0), .int .i64 (ct 172 [u2 % 16777216, u1 % 16777216, u3 % 16777216] 1), .int .i64 (ct 172 [u2 % 16777216, u1 % 16777216, u3 % 16777216] 2)])), (34, .v (.agg #[.int .i64 (u2 % 16777216), .int .i64 (u1 % 16777216), .int .i64 (u3 % 16777216)]))], [(2, ⟨131, [.v (.int .i64 u0), .v (.int .i64 u1), .v (.int .i64 u2), .v (.int .i64 u3)]⟩), (5, ⟨65, [.v (.int .i64 172), .v (.slice A1 3 c1), .v (.string (⟨#[]⟩))]⟩)]⟩ (by kernel_rfl) ⟨⟨fun _ h => (by cases h; rfl), rfl⟩, ⟨fun _ h => (by cases h; rfl), rfl⟩, trivial⟩ ?_
    refine XD.one (i := 26) (l' := (lb 32 134217727)) (oA B27 [1, 1, 0] 26) (by kernel_rfl) (by kernel_rfl) (by kernel_rfl) ?_
    refine X.eqV (t := 70) (t' := 70) (x := .tmp 32) (y := .tmp 34) (xs := #[.int .i64 (ct 172 [u2 % 16777216, u1 % 16777216, u3 % 16777216] 0), .int .i64 (ct 172 [u2 % 16777216, u1 % 16777216, u3 % 16777216] 1), .int .i64 (ct 172 [u2 % 16777216, u1 % 16777216, u3 % 16777216] 2)]) (ys := #[.int .i64 (u2 % 16777216), .int .i64 (u1 % 16777216), .int .i64 (u3 % 16777216)]) (b := (((ct 172 [u2 % 16777216, u1 % 16777216, u3 % 16777216] 0 : Int) == (u2 % 16777216)) && (((ct 172 [u2 % 16777216, u1 % 16777216, u3 % 16777216] 1 : Int) == (u1 % 16777216)) && (((ct 172 [u2 % 16777216, u1 % 16777216, u3 % 16777216] 2 : Int) == (u3 % 16777216)) && true)))) (by kernel_rfl) (by kernel_rfl) (by kernel_rfl) (by kernel_rfl) (by kernel_rfl) (by kernel_rfl) ?_
    refine X.back ⟨⟨⟨fun _ h => (by cases h; rfl), rfl⟩, ⟨fun _ h => (by cases h; rfl), rfl⟩, trivial⟩, (((((((((hG3.trans hG4).trans hG5).trans hG6).trans hG7).trans hG8).trans hG9).trans hG10).trans hG11).trans hG12).le, rfl, ?_⟩
    refine XD.take (i := 27) (l' := (lb 32 268435455)) (oA B27 [1, 1, 0] 27) (.v (.bool (((ct 172 [u2 % 16777216, u1 % 16777216, u3 % 16777216] 0 : Int) == (u2 % 16777216)) && (((ct 172 [u2 % 16777216, u1 % 16777216, u3 % 16777216] 1 : Int) == (u1 % 16777216)) && (((ct 172 [u2 % 16777216, u1 % 16777216, u3 % 16777216] 2 : Int) == (u3 % 16777216)) && true))))) QOk.ctxG (by kernel_rfl) (by kernel_rfl) (by kernel_rfl) (by kernel_rfl) (by kernel_rfl) ?_
    refine XD.take (i := 28) (l' := (lb 32 536870911)) (oA B27 [1, 1, 0] 28) (.v (.bool (((ct 172 [u2 % 16777216, u1 % 16777216, u3 % 16777216] 0 : Int) == (u2 % 16777216)) && (((ct 172 [u2 % 16777216, u1 % 16777216, u3 % 16777216] 1 : Int) == (u1 % 16777216)) && (((ct 172 [u2 % 16777216, u1 % 16777216, u3 % 16777216] 2 : Int) == (u3 % 16777216)) && true))))) QOk.ctxG (by kernel_rfl) (by kernel_rfl) (by kernel_rfl) (by kernel_rfl) (by kernel_rfl) ?_
    refine XD.isTrue 37 rfl (by simp [ct, cn]) ?_
    refine XD.norm [2, 4, 5, 37] [2, 5] ⟨40, [(2, .own 2 0), (4, .v (.bool false)), (5, .own 5 0), (37, .v (.bool true))], [(2, ⟨131, [.v (.int .i64 u0), .v (.int .i64 u1), .v (.int .i64 u2), .v (.int .i64 u3)]⟩), (5, ⟨65, [.v (.int .i64 172), .v (.slice A1 3 c1), .v (.string (⟨#[]⟩))]⟩)]⟩ (by kernel_rfl) ⟨⟨fun _ h => (by cases h; rfl), rfl⟩, ⟨fun _ h => (by cases h; rfl), rfl⟩, trivial⟩ ?_
    refine XD.one (i := 29) (l' := (lb 32 1073741823)) (oA B27 [1, 1, 0] 29) (by kernel_rfl) (by kernel_rfl) (by kernel_rfl) ?_
    refine X.callG (f := 96) (l := []) [] 0 (by kernel_rfl) (by kernel_rfl) (by kernel_rfl) (works15_ok _) ?_
    rintro v13 G13 rows13 hG13 ⟨rfl, rfl⟩
    replace hr8 := hr8.mono hG13.le
    replace hr9 := hr9.mono hG13.le
    refine X.back ⟨⟨⟨fun _ h => (by cases h; rfl), rfl⟩, ⟨fun _ h => (by cases h; rfl), rfl⟩, trivial⟩, ((((((((((hG3.trans hG4).trans hG5).trans hG6).trans hG7).trans hG8).trans hG9).trans hG10).trans hG11).trans hG12).trans hG13).le, rfl, ?_⟩
    refine XD.take (i := 30) (l' := (lb 32 2147483647)) (oA B27 [1, 1, 0] 30) (.v (.bool true)) QOk.ctxG (by kernel_rfl) (by kernel_rfl) (by kernel_rfl) (by kernel_rfl) (by kernel_rfl) ?_
    refine XD.take (i := 31) (l' := (lb 32 4294967295)) (oA B27 [1, 1, 0] 31) (.v (.bool true)) QOk.ctxG (by kernel_rfl) (by kernel_rfl) (by kernel_rfl) (by kernel_rfl) (by kernel_rfl) ?_
    refine XD.done (by kernel_rfl) ?_
    refine X.run 2 [4] [] (.ex .ret) [] ⟨40, [(4, .v (.bool true))], []⟩ (by kernel_rfl) ?_
    refine doneG (.inl rfl) [.bool true] [] (by kernel_rfl) rfl rfl ((((((((((((hG1.trans hG3).trans hG4).trans hG5).trans hG6).trans hG7).trans hG8).trans hG9).trans hG10).trans hG11).trans hG12).trans hG13)) ?_
    -- end 1 (e)
    exact ⟨rfl, rfl⟩
  · -- even False
    obtain ⟨A1, c1, rfl, hc1, rfl⟩ := hO1 hpar
    refine X.asR (R' := [(608, ⟨29, 1, .slice A1 3 c1, 3, [.int .u32 (u3 % 16777216), .int .u32 (u1 % 16777216), .int .u32 (u2 % 16777216)]⟩)]) rfl ?_
    refine X.run 5 [1, 2, 4, 5] [2, 5] (.code (cA B27 [1, 1, 0])) [.seq (cA B27 [1, 1, 1])] ⟨40, [(1, .v (.int .i64 n)), (2, .own 2 0), (4, .v (.bool false)), (5, .own 5 0)], [(2, ⟨131, [.v (.int .i64 u0), .v (.int .i64 u1), .v (.int .i64 u2), .v (.int .i64 u3)]⟩), (5, ⟨65, [.v (.int .i64 174), .v (.slice A1 3 c1), .v (.string (⟨#[]⟩))]⟩)]⟩ (by kernel_rfl) ?_
    refine XD.open (id := 2) (arr := aA B27 [1, 1, 0]) 32 [⟨some 2, 2, 131, [.v (.int .i64 u0), .v (.int .i64 u1), .v (.int .i64 u2), .v (.int .i64 u3)]⟩, ⟨some 5, 5, 65, [.v (.int .i64 174), .v (.slice A1 3 c1), .v (.string (⟨#[]⟩))]⟩] [] [] (by kernel_rfl) (by kernel_rfl) (by kernel_rfl) (by kernel_rfl) (by kernel_rfl) ⟨⟨fun _ h => (by cases h; rfl), rfl⟩, ⟨fun _ h => (by cases h; rfl), rfl⟩, trivial⟩ (by intro p hp hn; simp only [List.mem_cons, List.not_mem_nil, or_false] at hp; rcases hp with rfl | rfl <;> first | (cases hn; done) | exact absurd _ (Nat.le_of_ble_eq_true rfl)) rfl (fun ρ0 => ?_)
    refine XD.take (i := 0) (l' := (lb 32 1)) (oA B27 [1, 1, 0] 0) (.v (.agg #[.int .i64 u0, .int .i64 u1, .int .i64 u2, .int .i64 u3])) QOk.ctxG (by kernel_rfl) (by kernel_rfl) (by kernel_rfl) (by kernel_rfl) (by kernel_rfl) ?_
    refine XD.take (i := 3) (l' := (lb 32 9)) (oA B27 [1, 1, 0] 3) (.own 2 0) QOk.ctxG (by kernel_rfl) (by kernel_rfl) (by kernel_rfl) (by kernel_rfl) (by kernel_rfl) ?_
    refine XD.take (i := 4) (l' := (lb 32 25)) (oA B27 [1, 1, 0] 4) (.v (.int .i64 u0)) QOk.ctxG (by kernel_rfl) (by kernel_rfl) (by kernel_rfl) (by kernel_rfl) (by kernel_rfl) ?_
    refine XD.norm [1, 2, 4, 5, 9, 13] [2, 5] ⟨40, [(1, .v (.int .i64 n)), (2, .own 2 0), (4, .v (.bool false)), (5, .own 5 0), (9, .v (.agg #[.int .i64 u0, .int .i64 u1, .int .i64 u2, .int .i64 u3])), (13, .v (.int .i64 u0))], [(2, ⟨131, [.v (.int .i64 u0), .v (.int .i64 u1), .v (.int .i64 u2), .v (.int .i64 u3)]⟩), (5, ⟨65, [.v (.int .i64 174), .v (.slice A1 3 c1), .v (.string (⟨#[]⟩))]⟩)]⟩ (by kernel_rfl) ⟨⟨fun _ h => (by cases h; rfl), rfl⟩, ⟨fun _ h => (by cases h; rfl), rfl⟩, trivial⟩ ?_
    refine XD.one (i := 1) (l' := (lb 32 27)) (oA B27 [1, 1, 0] 1) (by kernel_rfl) (by kernel_rfl) (by kernel_rfl) ?_
    refine X.callG (f := 91) (l := [.v (.agg #[.int .i64 u0, .int .i64 u1, .int .i64 u2, .int .i64 u3])]) [.agg #[.int .i64 u0, .int .i64 u1, .int .i64 u2, .int .i64 u3]] 0 (by kernel_rfl) (by kernel_rfl) (by kernel_rfl) (cAce_ok u0 u1 u2 u3 _) ?_
    rintro v15 G15 rows15 hG15 ⟨rfl, rfl⟩
    refine X.back ⟨⟨⟨fun _ h => (by cases h; rfl), rfl⟩, ⟨fun _ h => (by cases h; rfl), rfl⟩, trivial⟩, hG15.le, rfl, ?_⟩
    refine XD.take (i := 2) (l' := (lb 32 31)) (oA B27 [1, 1, 0] 2) (.v (.int .i64 (IntKind.i64.wrap (IntKind.u8.wrap (band .i64 u0 7))))) QOk.ctxG (by kernel_rfl) (by kernel_rfl) (by kernel_rfl) (by kernel_rfl) (by kernel_rfl) ?_
    refine XD.norm [1, 2, 4, 5, 11, 13] [2, 5] ⟨40, [(1, .v (.int .i64 n)), (2, .own 2 0), (4, .v (.bool false)), (5, .own 5 0), (11, .v (.int .i64 (IntKind.i64.wrap (IntKind.u8.wrap (band .i64 u0 7))))), (13, .v (.int .i64 u0))], [(2, ⟨131, [.v (.int .i64 u0), .v (.int .i64 u1), .v (.int .i64 u2), .v (.int .i64 u3)]⟩), (5, ⟨65, [.v (.int .i64 174), .v (.slice A1 3 c1), .v (.string (⟨#[]⟩))]⟩)]⟩ (by kernel_rfl) ⟨⟨fun _ h => (by cases h; rfl), rfl⟩, ⟨fun _ h => (by cases h; rfl), rfl⟩, trivial⟩ ?_
    refine XD.one (i := 5) (l' := (lb 32 63)) (oA B27 [1, 1, 0] 5) (by kernel_rfl) (by kernel_rfl) (by kernel_rfl) ?_
    refine X.callG (f := 92) (l := [.v (.int .i64 u0), .v (.int .i64 8)]) [.int .i64 u0, .int .i64 8] 0 (by kernel_rfl) (by kernel_rfl) (by kernel_rfl) (Low8_ok u0 (by omega) _) ?_
    rintro v16 G16 rows16 hG16 ⟨rfl, rfl⟩
    refine X.back ⟨⟨⟨fun _ h => (by cases h; rfl), rfl⟩, ⟨fun _ h => (by cases h; rfl), rfl⟩, trivial⟩, (hG15.trans hG16).le, rfl, ?_⟩
    refine XD.take (i := 6) (l' := (lb 32 127)) (oA B27 [1, 1, 0] 6) (.v (.bool ((IntKind.i64.wrap (IntKind.u8.wrap (band .i64 u0 7))) == (u0 % 8)))) QOk.ctxG (by kernel_rfl) (by kernel_rfl) (by kernel_rfl) (by kernel_rfl) (by kernel_rfl) ?_
    refine XD.take (i := 7) (l' := (lb 32 255)) (oA B27 [1, 1, 0] 7) (.v (.bool ((IntKind.i64.wrap (IntKind.u8.wrap (band .i64 u0 7))) == (u0 % 8)))) QOk.ctxG (by kernel_rfl) (by kernel_rfl) (by kernel_rfl) (by kernel_rfl) (by kernel_rfl) ?_
    refine XD.isTrue 16 rfl (by rw [band7S, wu8 (by omega) (by omega), wi64 (by omega) (by omega)]; simp) ?_
    refine XD.take (i := 8) (l' := (lb 32 511)) (oA B27 [1, 1, 0] 8) (.v (.agg #[.int .i64 u0, .int .i64 u1, .int .i64 u2, .int .i64 u3])) QOk.ctxG (by kernel_rfl) (by kernel_rfl) (by kernel_rfl) (by kernel_rfl) (by kernel_rfl) ?_
    refine XD.take (i := 10) (l' := (lb 32 1535)) (oA B27 [1, 1, 0] 10) (.v (.agg #[.int .i64 u0, .int .i64 u1, .int .i64 u2, .int .i64 u3])) QOk.ctxG (by kernel_rfl) (by kernel_rfl) (by kernel_rfl) (by kernel_rfl) (by kernel_rfl) ?_
    refine XD.norm [1, 2, 4, 5, 16, 17, 19] [2, 5] ⟨40, [(1, .v (.int .i64 n)), (2, .own 2 0), (4, .v (.bool false)), (5, .own 5 0), (16, .v (.bool true)), (17, .v (.agg #[.int .i64 u0, .int .i64 u1, .int .i64 u2, .int .i64 u3])), (19, .v (.agg #[.int .i64 u0, .int .i64 u1, .int .i64 u2, .int .i64 u3]))], [(2, ⟨131, [.v (.int .i64 u0), .v (.int .i64 u1), .v (.int .i64 u2), .v (.int .i64 u3)]⟩), (5, ⟨65, [.v (.int .i64 174), .v (.slice A1 3 c1), .v (.string (⟨#[]⟩))]⟩)]⟩ (by kernel_rfl) ⟨⟨fun _ h => (by cases h; rfl), rfl⟩, ⟨fun _ h => (by cases h; rfl), rfl⟩, trivial⟩ ?_
    refine XD.one (i := 9) (l' := (lb 32 2047)) (oA B27 [1, 1, 0] 9) (by kernel_rfl) (by kernel_rfl) (by kernel_rfl) ?_
    refine X.callG (f := 93) (l := [.v (.agg #[.int .i64 u0, .int .i64 u1, .int .i64 u2, .int .i64 u3])]) [.agg #[.int .i64 u0, .int .i64 u1, .int .i64 u2, .int .i64 u3]] 0 (by kernel_rfl) (by kernel_rfl) (by kernel_rfl) (cBytes_ok u0 u1 u2 u3 _) ?_
    rintro v17 G17 rows17 hG17 ⟨rfl, rfl⟩
    refine X.back ⟨⟨⟨fun _ h => (by cases h; rfl), rfl⟩, ⟨fun _ h => (by cases h; rfl), rfl⟩, trivial⟩, ((hG15.trans hG16).trans hG17).le, rfl, ?_⟩
    refine XD.norm [1, 2, 4, 5, 16, 18, 19] [2, 5] ⟨40, [(1, .v (.int .i64 n)), (2, .own 2 0), (4, .v (.bool false)), (5, .own 5 0), (16, .v (.bool true)), (18, .v (.agg #[.int .i64 (band .i64 u2 16777215), .int .i64 (band .i64 u1 16777215), .int .i64 (band .i64 u3 16777215)])), (19, .v (.agg #[.int .i64 u0, .int .i64 u1, .int .i64 u2, .int .i64 u3]))], [(2, ⟨131, [.v (.int .i64 u0), .v (.int .i64 u1), .v (.int .i64 u2), .v (.int .i64 u3)]⟩), (5, ⟨65, [.v (.int .i64 174), .v (.slice A1 3 c1), .v (.string (⟨#[]⟩))]⟩)]⟩ (by kernel_rfl) ⟨⟨fun _ h => (by cases h; rfl), rfl⟩, ⟨fun _ h => (by cases h; rfl), rfl⟩, trivial⟩ ?_
    refine XD.one (i := 11) (l' := (lb 32 4095)) (oA B27 [1, 1, 0] 11) (by kernel_rfl) (by kernel_rfl) (by kernel_rfl) ?_
    refine X.callG (f := 94) (l := [.v (.agg #[.int .i64 u0, .int .i64 u1, .int .i64 u2, .int .i64 u3])]) [.agg #[.int .i64 u0, .int .i64 u1, .int .i64 u2, .int .i64 u3]] 0 (by kernel_rfl) (by kernel_rfl) (by kernel_rfl) (rBytes_ok u0 u1 u2 u3 (by omega) (by omega) (by omega) (by omega) _) ?_
    rintro v18 G18 rows18 hG18 ⟨rfl, rfl⟩
    refine X.back ⟨⟨⟨fun _ h => (by cases h; rfl), rfl⟩, ⟨fun _ h => (by cases h; rfl), rfl⟩, trivial⟩, (((hG15.trans hG16).trans hG17).trans hG18).le, rfl, ?_⟩
    refine XD.norm [1, 2, 4, 5, 16, 18, 20] [2, 5] ⟨40, [(1, .v (.int .i64 n)), (2, .own 2 0), (4, .v (.bool false)), (5, .own 5 0), (16, .v (.bool true)), (18, .v (.agg #[.int .i64 (band .i64 u2 16777215), .int .i64 (band .i64 u1 16777215), .int .i64 (band .i64 u3 16777215)])), (20, .v (.agg #[.int .i64 (u2 % 16777216), .int .i64 (u1 % 16777216), .int .i64 (u3 % 16777216)]))], [(2, ⟨131, [.v (.int .i64 u0), .v (.int .i64 u1), .v (.int .i64 u2), .v (.int .i64 u3)]⟩), (5, ⟨65, [.v (.int .i64 174), .v (.slice A1 3 c1), .v (.string (⟨#[]⟩))]⟩)]⟩ (by kernel_rfl) ⟨⟨fun _ h => (by cases h; rfl), rfl⟩, ⟨fun _ h => (by cases h; rfl), rfl⟩, trivial⟩ ?_
    refine XD.one (i := 12) (l' := (lb 32 8191)) (oA B27 [1, 1, 0] 12) (by kernel_rfl) (by kernel_rfl) (by kernel_rfl) ?_
    refine X.eqV (t := 70) (t' := 70) (x := .tmp 18) (y := .tmp 20) (xs := #[.int .i64 (band .i64 u2 16777215), .int .i64 (band .i64 u1 16777215), .int .i64 (band .i64 u3 16777215)]) (ys := #[.int .i64 (u2 % 16777216), .int .i64 (u1 % 16777216), .int .i64 (u3 % 16777216)]) (b := (((band .i64 u2 16777215 : Int) == (u2 % 16777216)) && (((band .i64 u1 16777215 : Int) == (u1 % 16777216)) && (((band .i64 u3 16777215 : Int) == (u3 % 16777216)) && true)))) (by kernel_rfl) (by kernel_rfl) (by kernel_rfl) (by kernel_rfl) (by kernel_rfl) (by kernel_rfl) ?_
    refine X.back ⟨⟨⟨fun _ h => (by cases h; rfl), rfl⟩, ⟨fun _ h => (by cases h; rfl), rfl⟩, trivial⟩, (((hG15.trans hG16).trans hG17).trans hG18).le, rfl, ?_⟩
    refine XD.take (i := 13) (l' := (lb 32 16383)) (oA B27 [1, 1, 0] 13) (.v (.bool (((band .i64 u2 16777215 : Int) == (u2 % 16777216)) && (((band .i64 u1 16777215 : Int) == (u1 % 16777216)) && (((band .i64 u3 16777215 : Int) == (u3 % 16777216)) && true))))) QOk.ctxG (by kernel_rfl) (by kernel_rfl) (by kernel_rfl) (by kernel_rfl) (by kernel_rfl) ?_
    refine XD.take (i := 14) (l' := (lb 32 32767)) (oA B27 [1, 1, 0] 14) (.v (.bool (((band .i64 u2 16777215 : Int) == (u2 % 16777216)) && (((band .i64 u1 16777215 : Int) == (u1 % 16777216)) && (((band .i64 u3 16777215 : Int) == (u3 % 16777216)) && true))))) QOk.ctxG (by kernel_rfl) (by kernel_rfl) (by kernel_rfl) (by kernel_rfl) (by kernel_rfl) ?_
    refine XD.isTrue 23 rfl (by rw [band24S, band24S, band24S]; simp) ?_
    refine XD.take (i := 15) (l' := (lb 32 65535)) (oA B27 [1, 1, 0] 15) (.v (.agg #[.int .i64 174, .slice A1 3 c1, .string (⟨#[]⟩)])) QOk.ctxG (by kernel_rfl) (by kernel_rfl) (by kernel_rfl) (by kernel_rfl) (by kernel_rfl) ?_
    refine XD.take (i := 16) (l' := (lb 32 131071)) (oA B27 [1, 1, 0] 16) (.v (.agg #[.int .i64 u0, .int .i64 u1, .int .i64 u2, .int .i64 u3])) QOk.ctxG (by kernel_rfl) (by kernel_rfl) (by kernel_rfl) (by kernel_rfl) (by kernel_rfl) ?_
    refine XD.take (i := 17) (l' := (lb 32 262143)) (oA B27 [1, 1, 0] 17) (.v (.int .i64 n)) QOk.ctxG (by kernel_rfl) (by kernel_rfl) (by kernel_rfl) (by kernel_rfl) (by kernel_rfl) ?_
    refine XD.norm [2, 4, 5, 23, 24, 25, 26] [2, 5] ⟨40, [(2, .own 2 0), (4, .v (.bool false)), (5, .own 5 0), (23, .v (.bool true)), (24, .v (.agg #[.int .i64 174, .slice A1 3 c1, .string (⟨#[]⟩)])), (25, .v (.agg #[.int .i64 u0, .int .i64 u1, .int .i64 u2, .int .i64 u3])), (26, .v (.int .i64 n))], [(2, ⟨131, [.v (.int .i64 u0), .v (.int .i64 u1), .v (.int .i64 u2), .v (.int .i64 u3)]⟩), (5, ⟨65, [.v (.int .i64 174), .v (.slice A1 3 c1), .v (.string (⟨#[]⟩))]⟩)]⟩ (by kernel_rfl) ⟨⟨fun _ h => (by cases h; rfl), rfl⟩, ⟨fun _ h => (by cases h; rfl), rfl⟩, trivial⟩ ?_
    refine XD.one (i := 18) (l' := (lb 32 524287)) (oA B27 [1, 1, 0] 18) (by kernel_rfl) (by kernel_rfl) (by kernel_rfl) ?_
    refine X.callG (f := 95) (l := [.v (.agg #[.int .i64 u0, .int .i64 u1, .int .i64 u2, .int .i64 u3]), .v (.int .i64 n)]) [.agg #[.int .i64 u0, .int .i64 u1, .int .i64 u2, .int .i64 u3], .int .i64 n] 627 (by kernel_rfl) (by kernel_rfl) (by kernel_rfl) (rOption_ok u0 u1 u2 u3 n (by omega) (by omega) (by omega) (by omega) _) ?_
    rintro v19 G19 rows19 hG19 ⟨hE19, hO19⟩
    obtain ⟨A19, c19, rfl, hc19, rfl⟩ := hO19 (tmod_od hpar)
    refine X.asR (R' := [(627, ⟨29, 1, .slice A19 3 c19, 3, [.int .u32 (u3 % 16777216), .int .u32 (u1 % 16777216), .int .u32 (u2 % 16777216)]⟩), (608, ⟨29, 1, .slice A1 3 c1, 3, [.int .u32 (u3 % 16777216), .int .u32 (u1 % 16777216), .int .u32 (u2 % 16777216)]⟩)]) rfl ?_
    refine X.back ⟨⟨⟨fun _ h => (by cases h; rfl), rfl⟩, ⟨fun _ h => (by cases h; rfl), rfl⟩, trivial⟩, ((((hG15.trans hG16).trans hG17).trans hG18).trans hG19).le, rfl, ?_⟩
    refine XD.norm [2, 4, 5, 23, 24, 27] [2, 5] ⟨40, [(2, .own 2 0), (4, .v (.bool false)), (5, .own 5 0), (23, .v (.bool true)), (24, .v (.agg #[.int .i64 174, .slice A1 3 c1, .string (⟨#[]⟩)])), (27, .v (.agg #[.int .i64 174, .slice A19 3 c19, .string (⟨#[]⟩)]))], [(2, ⟨131, [.v (.int .i64 u0), .v (.int .i64 u1), .v (.int .i64 u2), .v (.int .i64 u3)]⟩), (5, ⟨65, [.v (.int .i64 174), .v (.slice A1 3 c1), .v (.string (⟨#[]⟩))]⟩)]⟩ (by kernel_rfl) ⟨⟨fun _ h => (by cases h; rfl), rfl⟩, ⟨fun _ h => (by cases h; rfl), rfl⟩, trivial⟩ ?_
    refine XD.one (i := 19) (l' := (lb 32 1048575)) (oA B27 [1, 1, 0] 19) (by kernel_rfl) (by kernel_rfl) (by kernel_rfl) ?_
    refine X.tellR [608, 627] (R' := [(608, ⟨29, 1, .slice A1 3 c1, 3, [.int .u32 (u3 % 16777216), .int .u32 (u1 % 16777216), .int .u32 (u2 % 16777216)]⟩), (627, ⟨29, 1, .slice A19 3 c19, 3, [.int .u32 (u3 % 16777216), .int .u32 (u1 % 16777216), .int .u32 (u2 % 16777216)]⟩)]) rfl ?_
    refine X.capLe (i := 608) (q := ⟨29, 1, .slice A1 3 c1, 3, [.int .u32 (u3 % 16777216), .int .u32 (u1 % 16777216), .int .u32 (u2 % 16777216)]⟩) (n := 3) (c := c1) (A := A1) rfl rfl ?_
    intro hle20 hmx20
    refine X.freezeHd (i := 608) (n := 3) (c := c1) (A := A1) (kd := .u32) ([u3 % 16777216, u1 % 16777216, u2 % 16777216]) rfl rfl (by intro x_ hx_; simp only [List.mem_cons, List.not_mem_nil, or_false] at hx_; simp only [IntKind.lo, IntKind.hi]; omega) (by kernel_rfl) (fun _ h => h) ?_
    intro G20 hG20 hr20
    refine X.tellR [627] (R' := [(627, ⟨29, 1, .slice A19 3 c19, 3, [.int .u32 (u3 % 16777216), .int .u32 (u1 % 16777216), .int .u32 (u2 % 16777216)]⟩)]) rfl ?_
    refine X.capLe (i := 627) (q := ⟨29, 1, .slice A19 3 c19, 3, [.int .u32 (u3 % 16777216), .int .u32 (u1 % 16777216), .int .u32 (u2 % 16777216)]⟩) (n := 3) (c := c19) (A := A19) rfl rfl ?_
    intro hle21 hmx21
    refine X.freezeHd (i := 627) (n := 3) (c := c19) (A := A19) (kd := .u32) ([u3 % 16777216, u1 % 16777216, u2 % 16777216]) rfl rfl (by intro x_ hx_; simp only [List.mem_cons, List.not_mem_nil, or_false] at hx_; simp only [IntKind.lo, IntKind.hi]; omega) (by kernel_rfl) (fun _ h => h) ?_
    intro G21 hG21 hr21
    replace hr20 := hr20.mono hG21.le
    refine X.callG (f := 52) (l := [.v (.agg #[.int .i64 174, .slice A1 3 c1, .string (⟨#[]⟩)]), .v (.agg #[.int .i64 174, .slice A19 3 c19, .string (⟨#[]⟩)])]) [.agg #[.int .i64 174, .slice A1 3 c1, .string (⟨#[]⟩)], .agg #[.int .i64 174, .slice A19 3 c19, .string (⟨#[]⟩)]] 0 (by kernel_rfl) (by kernel_rfl) (by kernel_rfl) (Same_ok 174 174 A1 A19 c1 c19 [u3 % 16777216, u1 % 16777216, u2 % 16777216] [u3 % 16777216, u1 % 16777216, u2 % 16777216] (⟨#[]⟩) (⟨#[]⟩) _ hr20 hr21 hle20 hle21 hmx20 hmx21) ?_
    rintro v22 G22 rows22 hG22 ⟨rfl, rfl⟩
    replace hr20 := hr20.mono hG22.le
    replace hr21 := hr21.mono hG22.le
    refine X.back ⟨⟨⟨fun _ h => (by cases h; rfl), rfl⟩, ⟨fun _ h => (by cases h; rfl), rfl⟩, trivial⟩, (((((((hG15.trans hG16).trans hG17).trans hG18).trans hG19).trans hG20).trans hG21).trans hG22).le, rfl, ?_⟩
    refine XD.take (i := 20) (l' := (lb 32 2097151)) (oA B27 [1, 1, 0] 20) (.v (.bool (decide ((174 : Int) = 174 ∧ (⟨#[]⟩ : ByteArray) = ⟨#[]⟩ ∧ ([u3 % 16777216, u1 % 16777216, u2 % 16777216] : List Int) = [u3 % 16777216, u1 % 16777216, u2 % 16777216])))) QOk.ctxG (by kernel_rfl) (by kernel_rfl) (by kernel_rfl) (by kernel_rfl) (by kernel_rfl) ?_
    refine XD.take (i := 21) (l' := (lb 32 4194303)) (oA B27 [1, 1, 0] 21) (.v (.bool (decide ((174 : Int) = 174 ∧ (⟨#[]⟩ : ByteArray) = ⟨#[]⟩ ∧ ([u3 % 16777216, u1 % 16777216, u2 % 16777216] : List Int) = [u3 % 16777216, u1 % 16777216, u2 % 16777216])))) QOk.ctxG (by kernel_rfl) (by kernel_rfl) (by kernel_rfl) (by kernel_rfl) (by kernel_rfl) ?_
    refine XD.isTrue 30 rfl (by simp) ?_
    refine XD.take (i := 22) (l' := (lb 32 8388607)) (oA B27 [1, 1, 0] 22) (.v (.agg #[.int .i64 174, .slice A1 3 c1, .string (⟨#[]⟩)])) QOk.ctxG (by kernel_rfl) (by kernel_rfl) (by kernel_rfl) (by kernel_rfl) (by kernel_rfl) ?_
    refine XD.take (i := 24) (l' := (lb 32 25165823)) (oA B27 [1, 1, 0] 24) (.v (.agg #[.int .i64 u0, .int .i64 u1, .int .i64 u2, .int .i64 u3])) QOk.ctxG (by kernel_rfl) (by kernel_rfl) (by kernel_rfl) (by kernel_rfl) (by kernel_rfl) ?_
    refine XD.norm [2, 4, 5, 30, 31, 33] [2, 5] ⟨40, [(2, .own 2 0), (4, .v (.bool false)), (5, .own 5 0), (30, .v (.bool true)), (31, .v (.agg #[.int .i64 174, .slice A1 3 c1, .string (⟨#[]⟩)])), (33, .v (.agg #[.int .i64 u0, .int .i64 u1, .int .i64 u2, .int .i64 u3]))], [(2, ⟨131, [.v (.int .i64 u0), .v (.int .i64 u1), .v (.int .i64 u2), .v (.int .i64 u3)]⟩), (5, ⟨65, [.v (.int .i64 174), .v (.slice A1 3 c1), .v (.string (⟨#[]⟩))]⟩)]⟩ (by kernel_rfl) ⟨⟨fun _ h => (by cases h; rfl), rfl⟩, ⟨fun _ h => (by cases h; rfl), rfl⟩, trivial⟩ ?_
    refine XD.one (i := 23) (l' := (lb 32 33554431)) (oA B27 [1, 1, 0] 23) (by kernel_rfl) (by kernel_rfl) (by kernel_rfl) ?_
    refine X.callG (f := 54) (l := [.v (.agg #[.int .i64 174, .slice A1 3 c1, .string (⟨#[]⟩)])]) [.agg #[.int .i64 174, .slice A1 3 c1, .string (⟨#[]⟩)]] 0 (by kernel_rfl) (by kernel_rfl) (by kernel_rfl) (Counters_ok 174 A1 c1 [u3 % 16777216, u1 % 16777216, u2 % 16777216] (⟨#[]⟩) _ hr20 hle20 hmx20) ?_
    rintro v23 G23 rows23 hG23 ⟨rfl, rfl⟩
    replace hr20 := hr20.mono hG23.le
    replace hr21 := hr21.mono hG23.le
    refine X.back ⟨⟨⟨fun _ h => (by cases h; rfl), rfl⟩, ⟨fun _ h => (by cases h; rfl), rfl⟩, trivial⟩, ((((((((hG15.trans hG16).trans hG17).trans hG18).trans hG19).trans hG20).trans hG21).trans hG22).trans hG23).le, rfl, ?_⟩
    refine XD.norm [2, 4, 5, 30, 32, 33] [2, 5] ⟨40, [(2, .own 2 0), (4, .v (.bool false)), (5, .own 5 0), (30, .v (.bool true)), (32, .v (.agg #[.int .i64 (ct 174 [u3 % 16777216, u1 % 16777216, u2 % 16777216] 0), .int .i64 (ct 174 [u3 % 16777216, u1 % 16777216, u2 % 16777216] 1), .int .i64 (ct 174 [u3 % 16777216, u1 % 16777216, u2 % 16777216] 2)])), (33, .v (.agg #[.int .i64 u0, .int .i64 u1, .int .i64 u2, .int .i64 u3]))], [(2, ⟨131, [.v (.int .i64 u0), .v (.int .i64 u1), .v (.int .i64 u2), .v (.int .i64 u3)]⟩), (5, ⟨65, [.v (.int .i64 174), .v (.slice A1 3 c1), .v (.string (⟨#[]⟩))]⟩)]⟩ (by kernel_rfl) ⟨⟨fun _ h => (by cases h; rfl), rfl⟩, ⟨fun _ h => (by cases h; rfl), rfl⟩, trivial⟩ ?_
    refine XD.one (i := 25) (l' := (lb 32 67108863)) (oA B27 [1, 1, 0] 25) (by kernel_rfl) (by kernel_rfl) (by kernel_rfl) ?_
    refine X.callG (f := 94) (l := [.v (.agg #[.int .i64 u0, .int .i64 u1, .int .i64 u2, .int .i64 u3])]) [.agg #[.int .i64 u0, .int .i64 u1, .int .i64 u2, .int .i64 u3]] 0 (by kernel_rfl) (by kernel_rfl) (by kernel_rfl) (rBytes_ok u0 u1 u2 u3 (by omega) (by omega) (by omega) (by omega) _) ?_
    rintro v24 G24 rows24 hG24 ⟨rfl, rfl⟩
    replace hr20 := hr20.mono hG24.le
    replace hr21 := hr21.mono hG24.le
    refine X.back ⟨⟨⟨fun _ h => (by cases h; rfl), rfl⟩, ⟨fun _ h => (by cases h; rfl), rfl⟩, trivial⟩, (((((((((hG15.trans hG16).trans hG17).trans hG18).trans hG19).trans hG20).trans hG21).trans hG22).trans hG23).trans hG24).le, rfl, ?_⟩
    refine XD.norm [2, 4, 5, 30, 32, 34] [2, 5] ⟨40, [(2, .own 2 0), (4, .v (.bool false)), (5, .own 5 0), (30, .v (.bool true)), (32, .v (.agg #[.int .i64 (ct 174 [u3 % 16777216, u1 % 16777216, u2 % 16777216] 0), .int .i64 (ct 174 [u3 % 16777216, u1 % 16777216, u2 % 16777216] 1), .int .i64 (ct 174 [u3 % 16777216, u1 % 16777216, u2 % 16777216] 2)])), (34, .v (.agg #[.int .i64 (u2 % 16777216), .int .i64 (u1 % 16777216), .int .i64 (u3 % 16777216)]))], [(2, ⟨131, [.v (.int .i64 u0), .v (.int .i64 u1), .v (.int .i64 u2), .v (.int .i64 u3)]⟩), (5, ⟨65, [.v (.int .i64 174), .v (.slice A1 3 c1), .v (.string (⟨#[]⟩))]⟩)]⟩ (by kernel_rfl) ⟨⟨fun _ h => (by cases h; rfl), rfl⟩, ⟨fun _ h => (by cases h; rfl), rfl⟩, trivial⟩ ?_
    refine XD.one (i := 26) (l' := (lb 32 134217727)) (oA B27 [1, 1, 0] 26) (by kernel_rfl) (by kernel_rfl) (by kernel_rfl) ?_
    refine X.eqV (t := 70) (t' := 70) (x := .tmp 32) (y := .tmp 34) (xs := #[.int .i64 (ct 174 [u3 % 16777216, u1 % 16777216, u2 % 16777216] 0), .int .i64 (ct 174 [u3 % 16777216, u1 % 16777216, u2 % 16777216] 1), .int .i64 (ct 174 [u3 % 16777216, u1 % 16777216, u2 % 16777216] 2)]) (ys := #[.int .i64 (u2 % 16777216), .int .i64 (u1 % 16777216), .int .i64 (u3 % 16777216)]) (b := (((ct 174 [u3 % 16777216, u1 % 16777216, u2 % 16777216] 0 : Int) == (u2 % 16777216)) && (((ct 174 [u3 % 16777216, u1 % 16777216, u2 % 16777216] 1 : Int) == (u1 % 16777216)) && (((ct 174 [u3 % 16777216, u1 % 16777216, u2 % 16777216] 2 : Int) == (u3 % 16777216)) && true)))) (by kernel_rfl) (by kernel_rfl) (by kernel_rfl) (by kernel_rfl) (by kernel_rfl) (by kernel_rfl) ?_
    refine X.back ⟨⟨⟨fun _ h => (by cases h; rfl), rfl⟩, ⟨fun _ h => (by cases h; rfl), rfl⟩, trivial⟩, (((((((((hG15.trans hG16).trans hG17).trans hG18).trans hG19).trans hG20).trans hG21).trans hG22).trans hG23).trans hG24).le, rfl, ?_⟩
    refine XD.take (i := 27) (l' := (lb 32 268435455)) (oA B27 [1, 1, 0] 27) (.v (.bool (((ct 174 [u3 % 16777216, u1 % 16777216, u2 % 16777216] 0 : Int) == (u2 % 16777216)) && (((ct 174 [u3 % 16777216, u1 % 16777216, u2 % 16777216] 1 : Int) == (u1 % 16777216)) && (((ct 174 [u3 % 16777216, u1 % 16777216, u2 % 16777216] 2 : Int) == (u3 % 16777216)) && true))))) QOk.ctxG (by kernel_rfl) (by kernel_rfl) (by kernel_rfl) (by kernel_rfl) (by kernel_rfl) ?_
    refine XD.take (i := 28) (l' := (lb 32 536870911)) (oA B27 [1, 1, 0] 28) (.v (.bool (((ct 174 [u3 % 16777216, u1 % 16777216, u2 % 16777216] 0 : Int) == (u2 % 16777216)) && (((ct 174 [u3 % 16777216, u1 % 16777216, u2 % 16777216] 1 : Int) == (u1 % 16777216)) && (((ct 174 [u3 % 16777216, u1 % 16777216, u2 % 16777216] 2 : Int) == (u3 % 16777216)) && true))))) QOk.ctxG (by kernel_rfl) (by kernel_rfl) (by kernel_rfl) (by kernel_rfl) (by kernel_rfl) ?_
    refine XD.isTrue 37 rfl (by simp [ct, cn]) ?_
    refine XD.norm [2, 4, 5, 37] [2, 5] ⟨40, [(2, .own 2 0), (4, .v (.bool false)), (5, .own 5 0), (37, .v (.bool true))], [(2, ⟨131, [.v (.int .i64 u0), .v (.int .i64 u1), .v (.int .i64 u2), .v (.int .i64 u3)]⟩), (5, ⟨65, [.v (.int .i64 174), .v (.slice A1 3 c1), .v (.string (⟨#[]⟩))]⟩)]⟩ (by kernel_rfl) ⟨⟨fun _ h => (by cases h; rfl), rfl⟩, ⟨fun _ h => (by cases h; rfl), rfl⟩, trivial⟩ ?_
    refine XD.one (i := 29) (l' := (lb 32 1073741823)) (oA B27 [1, 1, 0] 29) (by kernel_rfl) (by kernel_rfl) (by kernel_rfl) ?_
    refine X.callG (f := 96) (l := []) [] 0 (by kernel_rfl) (by kernel_rfl) (by kernel_rfl) (works15_ok _) ?_
    rintro v25 G25 rows25 hG25 ⟨rfl, rfl⟩
    replace hr20 := hr20.mono hG25.le
    replace hr21 := hr21.mono hG25.le
    refine X.back ⟨⟨⟨fun _ h => (by cases h; rfl), rfl⟩, ⟨fun _ h => (by cases h; rfl), rfl⟩, trivial⟩, ((((((((((hG15.trans hG16).trans hG17).trans hG18).trans hG19).trans hG20).trans hG21).trans hG22).trans hG23).trans hG24).trans hG25).le, rfl, ?_⟩
    refine XD.take (i := 30) (l' := (lb 32 2147483647)) (oA B27 [1, 1, 0] 30) (.v (.bool true)) QOk.ctxG (by kernel_rfl) (by kernel_rfl) (by kernel_rfl) (by kernel_rfl) (by kernel_rfl) ?_
    refine XD.take (i := 31) (l' := (lb 32 4294967295)) (oA B27 [1, 1, 0] 31) (.v (.bool true)) QOk.ctxG (by kernel_rfl) (by kernel_rfl) (by kernel_rfl) (by kernel_rfl) (by kernel_rfl) ?_
    refine XD.done (by kernel_rfl) ?_
    refine X.run 2 [4] [] (.ex .ret) [] ⟨40, [(4, .v (.bool true))], []⟩ (by kernel_rfl) ?_
    refine doneG (.inl rfl) [.bool true] [] (by kernel_rfl) rfl rfl ((((((((((((hG1.trans hG15).trans hG16).trans hG17).trans hG18).trans hG19).trans hG20).trans hG21).trans hG22).trans hG23).trans hG24).trans hG25)) ?_
    -- end 2 (o)
    exact ⟨rfl, rfl⟩
end Go.Proofs.YtjgpdbkkpomhjaaX
