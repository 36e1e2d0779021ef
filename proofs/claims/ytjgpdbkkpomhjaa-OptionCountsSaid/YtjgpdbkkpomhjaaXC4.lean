/- leatref15.Option -/
import Derived.Test.YtjgpdbkkpomhjaaProg
import Derived.KernelRfl
import Derived.Test.YtjgpdbkkpomhjaaXC3
namespace Go.Proofs.YtjgpdbkkpomhjaaX
open Go.RowKit
set_option linter.unusedVariables false
set_option linter.unusedSimpArgs false
set_option maxRecDepth 100000
/-- leat/leatref15.Option -/
noncomputable def B95 : Code := bodyOf Try.f95
set_option maxHeartbeats 1000000 in
theorem rOption_ok (u0 u1 u2 u3 n : Int) (h0 : (-9223372036854775808 ≤ u0 ∧ u0 ≤ 9223372036854775807)) (h1 : (-9223372036854775808 ≤ u1 ∧ u1 ≤ 9223372036854775807)) (h2 : (-9223372036854775808 ≤ u2 ∧ u2 ≤ 9223372036854775807)) (h3 : (-9223372036854775808 ≤ u3 ∧ u3 ≤ 9223372036854775807)) (G : Mem) : CallsG Try.prog 95 [.agg #[.int .i64 u0, .int .i64 u1, .int .i64 u2, .int .i64 u3], .int .i64 n] G (fun _ v rows => (Int.tmod n 2 = 0 → ∃ A' c', v = .agg #[.int .i64 172, .slice A' 3 c', .string ⟨#[]⟩] ∧ 3 ≤ c' ∧ rows = [⟨29, 1, .slice A' 3 c', 3, ([u2 % 16777216, u1 % 16777216, u3 % 16777216] : List Int).map (Value.int .u32)⟩]) ∧ (Int.tmod n 2 ≠ 0 → ∃ A' c', v = .agg #[.int .i64 174, .slice A' 3 c', .string ⟨#[]⟩] ∧ 3 ≤ c' ∧ rows = [⟨29, 1, .slice A' 3 c', 3, ([u3 % 16777216, u1 % 16777216, u2 % 16777216] : List Int).map (Value.int .u32)⟩])) := by
  refine CallsG.enter Try.func95 rfl rfl ?_
  intro w
  refine X.run 14 [2, 4, 7] [2, 4] (.code (cA B95 [1, 0, 1])) [.seq (cA B95 [1, 1])] ⟨22, [(2, .own 2 0), (4, .own 4 0), (7, .v (.bool ((Int.tmod n 2) == 0)))], [(2, ⟨131, [.v (.int .i64 u0), .v (.int .i64 u1), .v (.int .i64 u2), .v (.int .i64 u3)]⟩), (4, ⟨65, [.v (.int .i64 0), .v (.slice none 0 0), .v (.string ByteArray.empty)]⟩)]⟩ (by kernel_rfl) ?_
  refine X.split 7 rfl (fun h1 => ?_) (fun h1 => ?_)
  · -- slot 7: (Int.tmod n 2) == 0 is True
    replace h1 : (Int.tmod n 2) = 0 := by simpa using h1
    refine X.run 9 [2, 4, 9, 11, 13] [2, 4] (.ops (aA B95 [1, 0, 1, 0, 0]) (oA B95 [1, 0, 1, 0, 0] 6 :: lA B95 [1, 0, 1, 0, 0] 7)) [.seq (cA B95 [1, 0, 1, 0, 1]), .seq (cA B95 [1, 1])] ⟨22, [(2, .own 2 0), (4, .own 4 0), (9, .v (.int .i64 u2)), (11, .v (.int .i64 u1)), (13, .v (.int .i64 u3))], [(2, ⟨131, [.v (.int .i64 u0), .v (.int .i64 u1), .v (.int .i64 u2), .v (.int .i64 u3)]⟩), (4, ⟨65, [.v (.int .i64 0), .v (.slice none 0 0), .v (.string ByteArray.empty)]⟩)]⟩ (by kernel_rfl) ?_
    refine X.callG (f := 57) (l := [.v (.int .i64 172), .v (.int .i64 u2), .v (.int .i64 u1), .v (.int .i64 u3), .v (.int .i64 3)]) [.int .i64 172, .int .i64 u2, .int .i64 u1, .int .i64 u3, .int .i64 3] 614 (by kernel_rfl) (by kernel_rfl) (by kernel_rfl) (rAcc172_ok u2 u1 u3 (by omega) (by omega) (by omega) _) ?_
    rintro v2 G2 rows2 hG2 ⟨A2, c2, rfl, hc2, rfl⟩
    refine X.asR (R' := [(614, ⟨29, 1, .slice A2 3 c2, 3, [.int .u32 (u2 % 16777216), .int .u32 (u1 % 16777216), .int .u32 (u3 % 16777216)]⟩)]) rfl ?_
    refine X.run 5 [4] [4] (.ex .ret) [] ⟨22, [(4, .own 4 0)], [(4, ⟨65, [.v (.int .i64 172), .v (.slice A2 3 c2), .v (.string (⟨#[]⟩))]⟩)]⟩ (by kernel_rfl) ?_
    refine doneG (.inl rfl) [.agg #[.int .i64 172, .slice A2 3 c2, .string (⟨#[]⟩)]] [614] (by kernel_rfl) rfl rfl (hG2) ?_
    -- end 1 (T)
    exact ⟨fun _ => ⟨_, _, rfl, by assumption, rfl⟩, fun h => absurd h (by simpa using h1)⟩
  · -- slot 7: (Int.tmod n 2) == 0 is False
    replace h1 : (Int.tmod n 2) ≠ 0 := by simpa using h1
    refine X.run 11 [4, 16, 18, 20] [4] (.ops (aA B95 [1, 1, 0]) (oA B95 [1, 1, 0] 6 :: lA B95 [1, 1, 0] 7)) [.seq (cA B95 [1, 1, 1])] ⟨22, [(4, .own 4 0), (16, .v (.int .i64 u2)), (18, .v (.int .i64 u1)), (20, .v (.int .i64 u3))], [(4, ⟨65, [.v (.int .i64 0), .v (.slice none 0 0), .v (.string ByteArray.empty)]⟩)]⟩ (by kernel_rfl) ?_
    refine X.callG (f := 57) (l := [.v (.int .i64 174), .v (.int .i64 u2), .v (.int .i64 u1), .v (.int .i64 u3), .v (.int .i64 3)]) [.int .i64 174, .int .i64 u2, .int .i64 u1, .int .i64 u3, .int .i64 3] 621 (by kernel_rfl) (by kernel_rfl) (by kernel_rfl) (rAcc174_ok u2 u1 u3 (by omega) (by omega) (by omega) _) ?_
    rintro v3 G3 rows3 hG3 ⟨A3, c3, rfl, hc3, rfl⟩
    refine X.asR (R' := [(621, ⟨29, 1, .slice A3 3 c3, 3, [.int .u32 (u3 % 16777216), .int .u32 (u1 % 16777216), .int .u32 (u2 % 16777216)]⟩)]) rfl ?_
    refine X.run 4 [4] [4] (.ex .ret) [] ⟨22, [(4, .own 4 0)], [(4, ⟨65, [.v (.int .i64 174), .v (.slice A3 3 c3), .v (.string (⟨#[]⟩))]⟩)]⟩ (by kernel_rfl) ?_
    refine doneG (.inl rfl) [.agg #[.int .i64 174, .slice A3 3 c3, .string (⟨#[]⟩)]] [621] (by kernel_rfl) rfl rfl (hG3) ?_
    -- end 2 (F)
    exact ⟨fun h => absurd h (by simpa using h1), fun _ => ⟨_, _, rfl, by assumption, rfl⟩⟩
end Go.Proofs.YtjgpdbkkpomhjaaX
