/- leatref10.Pseudo -/
import Derived.Test.YtjgpdbkkpomhjaaProg
import Derived.KernelRfl
import Derived.Test.YtjgpdbkkpomhjaaXA3
namespace Go.Proofs.YtjgpdbkkpomhjaaX
open Go.RowKit
set_option linter.unusedVariables false
set_option linter.unusedSimpArgs false
set_option maxRecDepth 100000
/-- leat/leatref10.Pseudo -/
noncomputable def B47 : Code := bodyOf Try.f47
set_option maxHeartbeats 2000000 in
theorem RefPseudo_ok (s0 s1 s2 s3 d0 d1 d2 d3 p n : Int) (hn : -9223372036854775808 ≤ n ∧ n ≤ 9223372036854775807) (G : Mem) : CallsG Try.prog 47 [.agg #[.int .u8 s0, .int .u8 s1, .int .u8 s2, .int .u8 s3], .agg #[.int .u8 d0, .int .u8 d1, .int .u8 d2, .int .u8 d3], .int .u8 p, .int .i64 n] G (fun _ v rows => ∃ A', v = .slice A' 12 12 ∧ rows = [⟨5, 1, .slice A' 12 12, 12, ([s0, s1, s2, s3, d0, d1, d2, d3, 0, p, n % 65536 / 256, n % 256] : List Int).map (Value.int .u8)⟩]) := by
  refine CallsG.enter Try.func47 rfl rfl ?_
  intro w
  refine X.run 21 [2, 4, 5, 8, 9, 13] [4, 5] (.code (cA B47 [1, 1, 0, 1])) [.seq (cA B47 [1, 1, 1])] ⟨40, [(2, .v (.int .u8 p)), (4, .own 4 0), (5, .own 5 0), (8, .v (.slice none 0 0)), (9, .v (.int .i64 (Int.tmod n 65536))), (13, .v (.bool (decide (Int.tmod n 65536 < 0))))], [(4, ⟨55, [.v (.int .u8 s0), .v (.int .u8 s1), .v (.int .u8 s2), .v (.int .u8 s3)]⟩), (5, ⟨55, [.v (.int .u8 d0), .v (.int .u8 d1), .v (.int .u8 d2), .v (.int .u8 d3)]⟩)]⟩ (by kernel_rfl) ?_
  refine X.split 13 rfl (fun h1 => ?_) (fun h1 => ?_)
  · -- slot 13: decide (Int.tmod n 65536 < 0) is True
    replace h1 : Int.tmod n 65536 < 0 := of_decide_eq_true h1
    refine X.run 32 [8, 17, 19, 21, 23, 25, 27, 29, 31, 32, 35, 38] [] (.ops (aA B47 [1, 1, 1, 0]) (oA B47 [1, 1, 1, 0] 23 :: lA B47 [1, 1, 1, 0] 24)) [.seq (cA B47 [1, 1, 1, 1])] ⟨40, [(8, .v (.slice none 0 0)), (17, .v (.int .u8 s0)), (19, .v (.int .u8 s1)), (21, .v (.int .u8 s2)), (23, .v (.int .u8 s3)), (25, .v (.int .u8 d0)), (27, .v (.int .u8 d1)), (29, .v (.int .u8 d2)), (31, .v (.int .u8 d3)), (32, .v (.int .u8 p)), (35, .v (.int .u8 (IntKind.u8.wrap (IntKind.i64.wrap (Int.tdiv (IntKind.i64.wrap ((Int.tmod n 65536) + 65536)) 256))))), (38, .v (.int .u8 (IntKind.u8.wrap (Int.tmod (IntKind.i64.wrap ((Int.tmod n 65536) + 65536)) 256))))], []⟩ (by kernel_rfl) ?_
    refine X.lit 39 5 1 12 [.int .u8 s0, .int .u8 s1, .int .u8 s2, .int .u8 s3, .int .u8 d0, .int .u8 d1, .int .u8 d2, .int .u8 d3, .int .u8 0, .int .u8 p, .int .u8 (IntKind.u8.wrap (IntKind.i64.wrap (Int.tdiv (IntKind.i64.wrap ((Int.tmod n 65536) + 65536)) 256))), .int .u8 (IntKind.u8.wrap (Int.tmod (IntKind.i64.wrap ((Int.tmod n 65536) + 65536)) 256))] (by kernel_rfl) (fun g => by kernel_rfl) ?_
    intro A2
    refine X.run 4 [8] [] (.ex .ret) [] ⟨40, [(8, .v (.slice A2 12 12))], []⟩ (by kernel_rfl) ?_
    refine doneG (.inl rfl) [.slice A2 12 12] [39] (by kernel_rfl) rfl rfl (Ge.refl _ _) ?_
    -- end 1 (T)
    have hm_ := Int.emod_nonneg n (show (65536 : Int) ≠ 0 by decide)
    have hm2_ := Int.emod_lt_of_pos n (show (0 : Int) < 65536 by decide)
    have hq_ := Int.mul_tdiv_add_tmod n 65536
    have ha_ := Int.lt_tmod_of_pos n (show (0 : Int) < 65536 by decide)
    have hb_ := Int.tmod_lt_of_pos n (show (0 : Int) < 65536 by decide)
    have hX_ : IntKind.i64.wrap (Int.tmod n 65536 + 65536) = n % 65536 := by rw [wi64 (by omega) (by omega)]; omega
    refine ⟨_, rfl, ?_⟩
    rw [hX_, Int.tdiv_eq_ediv_of_nonneg hm_, Int.tmod_eq_emod_of_nonneg hm_, wi64 (x := n % 65536 / 256) (by omega) (by omega), u8_wrap, u8_wrap, show n % 65536 / 256 % 256 = n % 65536 / 256 by omega, show n % 65536 % 256 % 256 = n % 256 by omega]
    rfl
  · -- slot 13: decide (Int.tmod n 65536 < 0) is False
    replace h1 : ¬ (Int.tmod n 65536 < 0) := of_decide_eq_false h1
    refine X.run 28 [8, 17, 19, 21, 23, 25, 27, 29, 31, 32, 35, 38] [] (.ops (aA B47 [1, 1, 1, 0]) (oA B47 [1, 1, 1, 0] 23 :: lA B47 [1, 1, 1, 0] 24)) [.seq (cA B47 [1, 1, 1, 1])] ⟨40, [(8, .v (.slice none 0 0)), (17, .v (.int .u8 s0)), (19, .v (.int .u8 s1)), (21, .v (.int .u8 s2)), (23, .v (.int .u8 s3)), (25, .v (.int .u8 d0)), (27, .v (.int .u8 d1)), (29, .v (.int .u8 d2)), (31, .v (.int .u8 d3)), (32, .v (.int .u8 p)), (35, .v (.int .u8 (IntKind.u8.wrap (IntKind.i64.wrap (Int.tdiv (Int.tmod n 65536) 256))))), (38, .v (.int .u8 (IntKind.u8.wrap (Int.tmod (Int.tmod n 65536) 256))))], []⟩ (by kernel_rfl) ?_
    refine X.lit 39 5 1 12 [.int .u8 s0, .int .u8 s1, .int .u8 s2, .int .u8 s3, .int .u8 d0, .int .u8 d1, .int .u8 d2, .int .u8 d3, .int .u8 0, .int .u8 p, .int .u8 (IntKind.u8.wrap (IntKind.i64.wrap (Int.tdiv (Int.tmod n 65536) 256))), .int .u8 (IntKind.u8.wrap (Int.tmod (Int.tmod n 65536) 256))] (by kernel_rfl) (fun g => by kernel_rfl) ?_
    intro A3
    refine X.run 4 [8] [] (.ex .ret) [] ⟨40, [(8, .v (.slice A3 12 12))], []⟩ (by kernel_rfl) ?_
    refine doneG (.inl rfl) [.slice A3 12 12] [39] (by kernel_rfl) rfl rfl (Ge.refl _ _) ?_
    -- end 2 (F)
    have hm_ := Int.emod_nonneg n (show (65536 : Int) ≠ 0 by decide)
    have hm2_ := Int.emod_lt_of_pos n (show (0 : Int) < 65536 by decide)
    have hq_ := Int.mul_tdiv_add_tmod n 65536
    have ha_ := Int.lt_tmod_of_pos n (show (0 : Int) < 65536 by decide)
    have hb_ := Int.tmod_lt_of_pos n (show (0 : Int) < 65536 by decide)
    have hX_ : Int.tmod n 65536 = n % 65536 := by omega
    refine ⟨_, rfl, ?_⟩
    rw [hX_, Int.tdiv_eq_ediv_of_nonneg hm_, Int.tmod_eq_emod_of_nonneg hm_, wi64 (x := n % 65536 / 256) (by omega) (by omega), u8_wrap, u8_wrap, show n % 65536 / 256 % 256 = n % 65536 / 256 by omega, show n % 65536 % 256 % 256 = n % 256 by omega]
    rfl
end Go.Proofs.YtjgpdbkkpomhjaaX
