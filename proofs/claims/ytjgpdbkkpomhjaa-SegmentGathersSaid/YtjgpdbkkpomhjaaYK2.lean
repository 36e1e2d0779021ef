/- leatref03. Walked; printed by a small program of this session. Conditions: none. -/
import Derived.Test.YtjgpdbkkpomhjaaProg
import Derived.KernelRfl
import Derived.Test.YtjgpdbkkpomhjaaYK0
namespace Go.Proofs.YtjgpdbkkpomhjaaX
open Go.RowKit
open Go.Proofs.YtjgpdbkkpomhjaaW.PrintLast
set_option linter.unusedVariables false
set_option linter.unusedSimpArgs false
set_option maxRecDepth 100000
/-- leat/leatref03.Round -/
noncomputable def B161 : Code := bodyOf Try.f161
set_option maxHeartbeats 1000000 in
theorem Round_ok (G : Mem) : CallsG Try.prog 161 [.int .i64 32] G (fun _ v rows => v = .int .i64 4294967296 ∧ rows = []) := by
 refine CallsG.enter Try.func161 rfl rfl ?_
 intro w
 refine Rn 17 (Qc B161 58) [.blk 0, Qs B161 15] ⟨15, [(0, I6 32), (2, I6 0), (3, I6 1), (4, I6 0)], []⟩ ?_
 refine X.loopJ (fun m s R' G' => ∃ (i_ : Nat), s = ⟨15, [(0, I6 32), (2, I6 0), (3, I6 (2 ^ i_)), (4, I6 (i_ : Int))], []⟩ ∧ R' = [] ∧ G = G' ∧ (i_ ≤ 32) ∧ m = (33 - i_)) _ ⟨0, rfl, rfl, rfl, Nat.zero_le _, rfl⟩ ?_
 rintro m1 s1 R1 G1 ⟨i_, rfl, rfl, rfl, hF1, rfl⟩ J1 hJ1
 have hi_ := hF1
 have hp_ := pow_le hi_
 refine Rn 10 (Qc B161 465) [Qs B161 233, .loop J1, .blk 0, Qs B161 15] ⟨15, [(0, I6 32), (2, I6 0), (3, I6 (2 ^ i_)), (4, I6 (i_ : Int)), (9, VB (decide ((i_ : Int) < 32)))], []⟩ ?_
 refine X.split 9 rfl (fun h2 => ?_) (fun h2 => ?_)
 ·
  replace h2 : (i_ : Int) < 32 := of_decide_eq_true h2
  have hp2_ := pow_le (i := i_ + 1) (by omega)
  refine Rn 8 (Qo B161 932 2) [.blk 1, Qs B161 467, .loop J1, .blk 0, Qs B161 15] ⟨15, [(0, I6 32), (2, I6 0), (3, I6 (2 ^ i_)), (4, I6 (i_ : Int)), (13, I6 (IntKind.i64.wrap ((2 ^ i_) * 2)))], []⟩ ?_
  refine Kn 13 .i64 (2 ^ (i_ + 1)) rfl (by rw [pow_step]; rw [pow_step] at hp2_; exact wi64 (by omega) (by omega)) ?_
  refine Rn 7 (Qo B161 467 2) [.loop J1, .blk 0, Qs B161 15] ⟨15, [(0, I6 32), (2, I6 0), (3, I6 (2 ^ (i_ + 1))), (4, I6 (i_ : Int)), (11, I6 (IntKind.i64.wrap ((i_ : Int) + 1)))], []⟩ ?_
  refine Kn 11 .i64 ((i_ + 1 : Nat) : Int) rfl (by rw [wi64 (by omega) (by omega)]; push_cast; rfl) ?_
  refine Rn 2 (.ex .normal) [.loop J1, .blk 0, Qs B161 15] ⟨15, [(0, I6 32), (2, I6 0), (3, I6 (2 ^ (i_ + 1))), (4, I6 ((i_ + 1 : Nat) : Int))], []⟩ ?_
  exact X.again (hJ1 _ _ _ _ ⟨(i_ + 1), rfl, rfl, rfl, by omega, rfl⟩ (by omega))
 ·
  replace h2 : ¬ ((i_ : Int) < 32) := of_decide_eq_false h2
  refine Rn 13 (.ex .ret) [] ⟨15, [(2, I6 (2 ^ i_))], []⟩ ?_
  refine Dg (.inl rfl) [N6 (2 ^ i_)] [] rfl (Ge.refl _ _) ?_
  have he_ : i_ = 32 := by omega
  subst he_
  exact ⟨rfl, rfl⟩
/-- leat/leatref03.Cut -/
noncomputable def B162 : Code := bodyOf Try.f162
set_option maxHeartbeats 1000000 in
theorem Cut3_ok (x : Int) (G : Mem) (hx : 0 ≤ x ∧ x ≤ 18446744073709551615) : CallsG Try.prog 162 [.int .u64 x, .int .i64 32] G (fun _ v rows => v = .int .u64 (x % 4294967296) ∧ rows = []) := by
 refine CallsG.enter Try.func162 rfl rfl ?_
 intro w
 refine Rn 9 (Qo B162 6 2) [Qs B162 7] ⟨10, [(4, I7 0), (5, I7 x), (6, I6 32)], []⟩ ?_
 refine Cg 161 [N6 32] 0 (Round_ok _) ?_
 rintro v1 G1 rows1 hG1 ⟨rfl, rfl⟩
 refine Rn 2 (Qo B162 6 5) [Qs B162 7] ⟨10, [(4, I7 0), (9, I7 (Int.tmod x 4294967296))], []⟩ ?_
 refine Kn 9 .u64 (x % 4294967296) rfl (Int.tmod_eq_emod_of_nonneg (by omega)) ?_
 refine Rn 4 (.ex .ret) [] ⟨10, [(4, I7 (x % 4294967296))], []⟩ ?_
 refine Dg (.inl rfl) [N7 (x % 4294967296)] [] rfl (hG1) ?_
 exact ⟨rfl, rfl⟩
/-- leat/leatref03.Diff -/
noncomputable def B159 : Code := bodyOf Try.f159
set_option maxHeartbeats 1000000 in
theorem RDiff_ok (a b : Int) (G : Mem) (ha : 0 ≤ a ∧ a ≤ 18446744073709551615) (hb : 0 ≤ b ∧ b ≤ 18446744073709551615) : CallsG Try.prog 159 [.int .u64 a, .int .u64 b, .int .i64 32] G (fun _ v rows => v = .int .i64 (dif a b) ∧ rows = []) := by
 refine CallsG.enter Try.func159 rfl rfl ?_
 intro w
 refine Rn 8 (Qo B159 6 1) [Qs B159 7] ⟨36, [(0, I7 a), (1, I7 b), (2, I6 32), (6, I6 0), (9, I6 32)], []⟩ ?_
 refine Cg 161 [N6 32] 0 (Round_ok _) ?_
 rintro v1 G1 rows1 hG1 ⟨rfl, rfl⟩
 refine Rn 7 (Qo B159 14 2) [Qs B159 15] ⟨36, [(1, I7 b), (2, I6 32), (6, I6 0), (7, I6 4294967296), (11, I7 a), (12, I6 32)], []⟩ ?_
 refine Cg 162 [N7 a, N6 32] 0 (Cut3_ok a _ (by omega)) ?_
 rintro v2 G2 rows2 hG2 ⟨rfl, rfl⟩
 refine Rn 1 (Qo B159 14 4) [Qs B159 15] ⟨36, [(1, I7 b), (2, I6 32), (6, I6 0), (7, I6 4294967296), (14, I6 (IntKind.i64.wrap (a % 4294967296)))], []⟩ ?_
 refine Kn 14 .i64 (a % 4294967296) rfl (wi64 (by omega) (by omega)) ?_
 refine Rn 2 (Qo B159 14 6) [Qs B159 15] ⟨36, [(6, I6 0), (7, I6 4294967296), (14, I6 (a % 4294967296)), (15, I7 b), (16, I6 32)], []⟩ ?_
 refine Cg 162 [N7 b, N6 32] 0 (Cut3_ok b _ (by omega)) ?_
 rintro v3 G3 rows3 hG3 ⟨rfl, rfl⟩
 refine Rn 1 (Qo B159 14 8) [Qs B159 15] ⟨36, [(6, I6 0), (7, I6 4294967296), (14, I6 (a % 4294967296)), (18, I6 (IntKind.i64.wrap (b % 4294967296)))], []⟩ ?_
 refine Kn 18 .i64 (b % 4294967296) rfl (wi64 (by omega) (by omega)) ?_
 refine Rn 1 (Qo B159 14 9) [Qs B159 15] ⟨36, [(6, I6 0), (7, I6 4294967296), (19, I6 (IntKind.i64.wrap ((a % 4294967296) - (b % 4294967296))))], []⟩ ?_
 refine Kn 19 .i64 ((a % 4294967296) - (b % 4294967296)) rfl (wi64 (by omega) (by omega)) ?_
 refine Rn 13 (Qc B159 61) [Qs B159 31] ⟨36, [(6, I6 0), (7, I6 4294967296), (8, I6 ((a % 4294967296) - (b % 4294967296))), (24, VB (decide ((a % 4294967296) - (b % 4294967296) < (-2147483648))))], []⟩ ?_
 refine X.split 24 rfl (fun h4 => ?_) (fun h4 => ?_)
 ·
  replace h4 : (a % 4294967296) - (b % 4294967296) < (-2147483648) := of_decide_eq_true h4
  refine Rn 5 (Qo B159 122 3) [Qs B159 31] ⟨36, [(6, I6 0), (7, I6 4294967296), (8, I6 ((a % 4294967296) - (b % 4294967296))), (27, I6 (IntKind.i64.wrap (((a % 4294967296) - (b % 4294967296)) + 4294967296)))], []⟩ ?_
  refine Kn 27 .i64 (((a % 4294967296) - (b % 4294967296)) + 4294967296) rfl (wi64 (by omega) (by omega)) ?_
  refine Rn 12 (Qc B159 125) [Qs B159 63] ⟨36, [(6, I6 0), (7, I6 4294967296), (8, I6 (((a % 4294967296) - (b % 4294967296)) + 4294967296)), (31, VB (decide (((a % 4294967296) - (b % 4294967296)) + 4294967296 ≥ 2147483648)))], []⟩ ?_
  refine X.split 31 rfl (fun h5 => ?_) (fun h5 => ?_)
  ·
   replace h5 : ((a % 4294967296) - (b % 4294967296)) + 4294967296 ≥ 2147483648 := of_decide_eq_true h5
   refine Rn 5 (Qo B159 250 3) [Qs B159 63] ⟨36, [(6, I6 0), (8, I6 (((a % 4294967296) - (b % 4294967296)) + 4294967296)), (34, I6 (IntKind.i64.wrap ((((a % 4294967296) - (b % 4294967296)) + 4294967296) - 4294967296)))], []⟩ ?_
   refine Kn 34 .i64 ((((a % 4294967296) - (b % 4294967296)) + 4294967296) - 4294967296) rfl (wi64 (by omega) (by omega)) ?_
   refine Rn 10 (.ex .ret) [] ⟨36, [(6, I6 ((((a % 4294967296) - (b % 4294967296)) + 4294967296) - 4294967296))], []⟩ ?_
   refine Dg (.inl rfl) [N6 ((((a % 4294967296) - (b % 4294967296)) + 4294967296) - 4294967296)] [] rfl (((hG1.trans hG2).trans hG3)) ?_
   rw [show (((a % 4294967296) - (b % 4294967296)) + 4294967296) - 4294967296 = dif a b by unfold dif; omega]
   exact ⟨rfl, rfl⟩
  ·
   replace h5 : ¬ (((a % 4294967296) - (b % 4294967296)) + 4294967296 ≥ 2147483648) := of_decide_eq_false h5
   refine Rn 10 (.ex .ret) [] ⟨36, [(6, I6 (((a % 4294967296) - (b % 4294967296)) + 4294967296))], []⟩ ?_
   refine Dg (.inl rfl) [N6 (((a % 4294967296) - (b % 4294967296)) + 4294967296)] [] rfl (((hG1.trans hG2).trans hG3)) ?_
   rw [show ((a % 4294967296) - (b % 4294967296)) + 4294967296 = dif a b by unfold dif; omega]
   exact ⟨rfl, rfl⟩
 ·
  replace h4 : ¬ ((a % 4294967296) - (b % 4294967296) < (-2147483648)) := of_decide_eq_false h4
  refine Rn 12 (Qc B159 125) [Qs B159 63] ⟨36, [(6, I6 0), (7, I6 4294967296), (8, I6 ((a % 4294967296) - (b % 4294967296))), (31, VB (decide ((a % 4294967296) - (b % 4294967296) ≥ 2147483648)))], []⟩ ?_
  refine X.split 31 rfl (fun h6 => ?_) (fun h6 => ?_)
  ·
   replace h6 : (a % 4294967296) - (b % 4294967296) ≥ 2147483648 := of_decide_eq_true h6
   refine Rn 5 (Qo B159 250 3) [Qs B159 63] ⟨36, [(6, I6 0), (8, I6 ((a % 4294967296) - (b % 4294967296))), (34, I6 (IntKind.i64.wrap (((a % 4294967296) - (b % 4294967296)) - 4294967296)))], []⟩ ?_
   refine Kn 34 .i64 (((a % 4294967296) - (b % 4294967296)) - 4294967296) rfl (wi64 (by omega) (by omega)) ?_
   refine Rn 10 (.ex .ret) [] ⟨36, [(6, I6 (((a % 4294967296) - (b % 4294967296)) - 4294967296))], []⟩ ?_
   refine Dg (.inl rfl) [N6 (((a % 4294967296) - (b % 4294967296)) - 4294967296)] [] rfl (((hG1.trans hG2).trans hG3)) ?_
   rw [show ((a % 4294967296) - (b % 4294967296)) - 4294967296 = dif a b by unfold dif; omega]
   exact ⟨rfl, rfl⟩
  ·
   replace h6 : ¬ ((a % 4294967296) - (b % 4294967296) ≥ 2147483648) := of_decide_eq_false h6
   refine Rn 10 (.ex .ret) [] ⟨36, [(6, I6 ((a % 4294967296) - (b % 4294967296)))], []⟩ ?_
   refine Dg (.inl rfl) [N6 ((a % 4294967296) - (b % 4294967296))] [] rfl (((hG1.trans hG2).trans hG3)) ?_
   rw [show (a % 4294967296) - (b % 4294967296) = dif a b by unfold dif; omega]
   exact ⟨rfl, rfl⟩
/-- leat/leatref03.Unwrap -/
noncomputable def B131 : Code := bodyOf Try.f131
set_option maxHeartbeats 1000000 in
theorem RUnwrap_ok (last x : Int) (G : Mem) (hx : 0 ≤ x ∧ x ≤ 18446744073709551615) : CallsG Try.prog 131 [.int .i64 last, .int .u64 x, .int .i64 32] G (fun _ v rows => v = .int .i64 (unw last x) ∧ rows = []) := by
 have hf_ := farL_range last
 obtain ⟨⟨q_, hq_⟩, ht1_, ht2_⟩ := tm32 (farL last)
 refine CallsG.enter Try.func131 rfl rfl ?_
 intro w
 refine Rn 9 (Qo B131 6 2) [Qs B131 7] ⟨50, [(0, I6 last), (1, I7 x), (2, I6 32), (6, I6 0), (12, I6 (imax last (-4611686018427387904)))], []⟩ ?_
 refine Kn 12 .i64 (max last (-4611686018427387904)) rfl (by simp only [imin_eq, imax_eq]) ?_
 refine Rn 1 (Qo B131 6 3) [Qs B131 7] ⟨50, [(0, I6 last), (1, I7 x), (2, I6 32), (6, I6 0), (13, I6 (imin (max last (-4611686018427387904)) 4611686018427387904))], []⟩ ?_
 refine Kn 13 .i64 (farL last) rfl (by simp only [imin_eq, imax_eq]; unfold farL; omega) ?_
 refine Rn 6 (Qo B131 14 1) [Qs B131 15] ⟨50, [(0, I6 (farL last)), (1, I7 x), (2, I6 32), (6, I6 0), (14, I6 32)], []⟩ ?_
 refine Cg 161 [N6 32] 0 (Round_ok _) ?_
 rintro v1 G1 rows1 hG1 ⟨rfl, rfl⟩
 refine Rn 18 (Qc B131 125) [Qs B131 63] ⟨50, [(0, I6 (farL last)), (1, I7 x), (2, I6 32), (6, I6 0), (7, I6 4294967296), (8, I6 (Int.tmod (farL last) 4294967296)), (20, VB (decide (Int.tmod (farL last) 4294967296 < 0)))], []⟩ ?_
 refine X.split 20 rfl (fun h2 => ?_) (fun h2 => ?_)
 ·
  replace h2 : Int.tmod (farL last) 4294967296 < 0 := of_decide_eq_true h2
  refine Rn 5 (Qo B131 250 3) [Qs B131 63] ⟨50, [(0, I6 (farL last)), (1, I7 x), (2, I6 32), (6, I6 0), (7, I6 4294967296), (8, I6 (Int.tmod (farL last) 4294967296)), (23, I6 (IntKind.i64.wrap ((Int.tmod (farL last) 4294967296) + 4294967296)))], []⟩ ?_
  refine Kn 23 .i64 ((Int.tmod (farL last) 4294967296) + 4294967296) rfl (wi64 (by omega) (by omega)) ?_
  refine Rn 7 (Qo B131 126 2) [Qs B131 127] ⟨50, [(0, I6 (farL last)), (6, I6 0), (7, I6 4294967296), (8, I6 ((Int.tmod (farL last) 4294967296) + 4294967296)), (24, I7 x), (25, I6 32)], []⟩ ?_
  refine Cg 162 [N7 x, N6 32] 0 (Cut3_ok x _ (by omega)) ?_
  rintro v3 G3 rows3 hG3 ⟨rfl, rfl⟩
  refine Rn 1 (Qo B131 126 4) [Qs B131 127] ⟨50, [(0, I6 (farL last)), (6, I6 0), (7, I6 4294967296), (8, I6 ((Int.tmod (farL last) 4294967296) + 4294967296)), (27, I6 (IntKind.i64.wrap (x % 4294967296)))], []⟩ ?_
  refine Kn 27 .i64 (x % 4294967296) rfl (wi64 (by omega) (by omega)) ?_
  refine Rn 2 (Qo B131 126 6) [Qs B131 127] ⟨50, [(0, I6 (farL last)), (6, I6 0), (7, I6 4294967296), (29, I6 (IntKind.i64.wrap ((x % 4294967296) - ((Int.tmod (farL last) 4294967296) + 4294967296))))], []⟩ ?_
  refine Kn 29 .i64 ((x % 4294967296) - ((Int.tmod (farL last) 4294967296) + 4294967296)) rfl (wi64 (by omega) (by omega)) ?_
  refine Rn 10 (Qc B131 509) [Qs B131 255] ⟨50, [(0, I6 (farL last)), (6, I6 0), (7, I6 4294967296), (9, I6 ((x % 4294967296) - ((Int.tmod (farL last) 4294967296) + 4294967296))), (31, VB (decide ((x % 4294967296) - ((Int.tmod (farL last) 4294967296) + 4294967296) < 0)))], []⟩ ?_
  refine X.split 31 rfl (fun h4 => ?_) (fun h4 => ?_)
  ·
   replace h4 : (x % 4294967296) - ((Int.tmod (farL last) 4294967296) + 4294967296) < 0 := of_decide_eq_true h4
   refine Rn 5 (Qo B131 1018 3) [Qs B131 255] ⟨50, [(0, I6 (farL last)), (6, I6 0), (7, I6 4294967296), (9, I6 ((x % 4294967296) - ((Int.tmod (farL last) 4294967296) + 4294967296))), (34, I6 (IntKind.i64.wrap (((x % 4294967296) - ((Int.tmod (farL last) 4294967296) + 4294967296)) + 4294967296)))], []⟩ ?_
   refine Kn 34 .i64 (((x % 4294967296) - ((Int.tmod (farL last) 4294967296) + 4294967296)) + 4294967296) rfl (wi64 (by omega) (by omega)) ?_
   refine Rn 8 (Qo B131 510 3) [Qs B131 511] ⟨50, [(0, I6 (farL last)), (6, I6 0), (9, I6 (((x % 4294967296) - ((Int.tmod (farL last) 4294967296) + 4294967296)) + 4294967296)), (37, I6 (IntKind.i64.wrap (4294967296 - (((x % 4294967296) - ((Int.tmod (farL last) 4294967296) + 4294967296)) + 4294967296))))], []⟩ ?_
   refine Kn 37 .i64 (4294967296 - (((x % 4294967296) - ((Int.tmod (farL last) 4294967296) + 4294967296)) + 4294967296)) rfl (wi64 (by omega) (by omega)) ?_
   refine Rn 10 (Qc B131 2045) [Qs B131 1023] ⟨50, [(0, I6 (farL last)), (6, I6 0), (9, I6 (((x % 4294967296) - ((Int.tmod (farL last) 4294967296) + 4294967296)) + 4294967296)), (10, I6 (4294967296 - (((x % 4294967296) - ((Int.tmod (farL last) 4294967296) + 4294967296)) + 4294967296))), (39, VB ((((x % 4294967296) - ((Int.tmod (farL last) 4294967296) + 4294967296)) + 4294967296) == 0))], []⟩ ?_
   refine X.split 39 rfl (fun h5 => ?_) (fun h5 => ?_)
   ·
    replace h5 : (((x % 4294967296) - ((Int.tmod (farL last) 4294967296) + 4294967296)) + 4294967296) = 0 := by simpa using h5
    refine Rn 9 (.ex .ret) [] ⟨50, [(6, I6 (farL last))], []⟩ ?_
    refine Dg (.inl rfl) [N6 (farL last)] [] rfl ((hG1.trans hG3)) ?_
    rw [show farL last = unw last x by unfold unw dif; omega]
    exact ⟨rfl, rfl⟩
   ·
    replace h5 : (((x % 4294967296) - ((Int.tmod (farL last) 4294967296) + 4294967296)) + 4294967296) ≠ 0 := by simpa using h5
    refine Rn 11 (Qc B131 4093) [Qs B131 2047] ⟨50, [(0, I6 (farL last)), (6, I6 0), (9, I6 (((x % 4294967296) - ((Int.tmod (farL last) 4294967296) + 4294967296)) + 4294967296)), (10, I6 (4294967296 - (((x % 4294967296) - ((Int.tmod (farL last) 4294967296) + 4294967296)) + 4294967296))), (43, VB (decide (4294967296 - (((x % 4294967296) - ((Int.tmod (farL last) 4294967296) + 4294967296)) + 4294967296) ≤ ((x % 4294967296) - ((Int.tmod (farL last) 4294967296) + 4294967296)) + 4294967296)))], []⟩ ?_
    refine X.split 43 rfl (fun h6 => ?_) (fun h6 => ?_)
    ·
     replace h6 : 4294967296 - (((x % 4294967296) - ((Int.tmod (farL last) 4294967296) + 4294967296)) + 4294967296) ≤ ((x % 4294967296) - ((Int.tmod (farL last) 4294967296) + 4294967296)) + 4294967296 := of_decide_eq_true h6
     refine Rn 6 (Qo B131 16372 3) [Qs B131 16373, Qs B131 2047] ⟨50, [(0, I6 (farL last)), (6, I6 0), (9, I6 (((x % 4294967296) - ((Int.tmod (farL last) 4294967296) + 4294967296)) + 4294967296)), (46, I6 (IntKind.i64.wrap ((farL last) - (4294967296 - (((x % 4294967296) - ((Int.tmod (farL last) 4294967296) + 4294967296)) + 4294967296)))))], []⟩ ?_
     refine Kn 46 .i64 ((farL last) - (4294967296 - (((x % 4294967296) - ((Int.tmod (farL last) 4294967296) + 4294967296)) + 4294967296))) rfl (wi64 (by omega) (by omega)) ?_
     refine Rn 5 (.ex .ret) [] ⟨50, [(6, I6 ((farL last) - (4294967296 - (((x % 4294967296) - ((Int.tmod (farL last) 4294967296) + 4294967296)) + 4294967296))))], []⟩ ?_
     refine Dg (.inl rfl) [N6 ((farL last) - (4294967296 - (((x % 4294967296) - ((Int.tmod (farL last) 4294967296) + 4294967296)) + 4294967296)))] [] rfl ((hG1.trans hG3)) ?_
     rw [show (farL last) - (4294967296 - (((x % 4294967296) - ((Int.tmod (farL last) 4294967296) + 4294967296)) + 4294967296)) = unw last x by unfold unw dif; omega]
     exact ⟨rfl, rfl⟩
    ·
     replace h6 : ¬ (4294967296 - (((x % 4294967296) - ((Int.tmod (farL last) 4294967296) + 4294967296)) + 4294967296) ≤ ((x % 4294967296) - ((Int.tmod (farL last) 4294967296) + 4294967296)) + 4294967296) := of_decide_eq_false h6
     refine Rn 8 (Qo B131 4094 3) [Qs B131 4095] ⟨50, [(6, I6 0), (49, I6 (IntKind.i64.wrap ((farL last) + (((x % 4294967296) - ((Int.tmod (farL last) 4294967296) + 4294967296)) + 4294967296))))], []⟩ ?_
     refine Kn 49 .i64 ((farL last) + (((x % 4294967296) - ((Int.tmod (farL last) 4294967296) + 4294967296)) + 4294967296)) rfl (wi64 (by omega) (by omega)) ?_
     refine Rn 4 (.ex .ret) [] ⟨50, [(6, I6 ((farL last) + (((x % 4294967296) - ((Int.tmod (farL last) 4294967296) + 4294967296)) + 4294967296)))], []⟩ ?_
     refine Dg (.inl rfl) [N6 ((farL last) + (((x % 4294967296) - ((Int.tmod (farL last) 4294967296) + 4294967296)) + 4294967296))] [] rfl ((hG1.trans hG3)) ?_
     rw [show (farL last) + (((x % 4294967296) - ((Int.tmod (farL last) 4294967296) + 4294967296)) + 4294967296) = unw last x by unfold unw dif; omega]
     exact ⟨rfl, rfl⟩
  ·
   replace h4 : ¬ ((x % 4294967296) - ((Int.tmod (farL last) 4294967296) + 4294967296) < 0) := of_decide_eq_false h4
   refine Rn 8 (Qo B131 510 3) [Qs B131 511] ⟨50, [(0, I6 (farL last)), (6, I6 0), (9, I6 ((x % 4294967296) - ((Int.tmod (farL last) 4294967296) + 4294967296))), (37, I6 (IntKind.i64.wrap (4294967296 - ((x % 4294967296) - ((Int.tmod (farL last) 4294967296) + 4294967296)))))], []⟩ ?_
   refine Kn 37 .i64 (4294967296 - ((x % 4294967296) - ((Int.tmod (farL last) 4294967296) + 4294967296))) rfl (wi64 (by omega) (by omega)) ?_
   refine Rn 10 (Qc B131 2045) [Qs B131 1023] ⟨50, [(0, I6 (farL last)), (6, I6 0), (9, I6 ((x % 4294967296) - ((Int.tmod (farL last) 4294967296) + 4294967296))), (10, I6 (4294967296 - ((x % 4294967296) - ((Int.tmod (farL last) 4294967296) + 4294967296)))), (39, VB (((x % 4294967296) - ((Int.tmod (farL last) 4294967296) + 4294967296)) == 0))], []⟩ ?_
   refine X.split 39 rfl (fun h7 => ?_) (fun h7 => ?_)
   ·
    replace h7 : ((x % 4294967296) - ((Int.tmod (farL last) 4294967296) + 4294967296)) = 0 := by simpa using h7
    refine Rn 9 (.ex .ret) [] ⟨50, [(6, I6 (farL last))], []⟩ ?_
    refine Dg (.inl rfl) [N6 (farL last)] [] rfl ((hG1.trans hG3)) ?_
    rw [show farL last = unw last x by unfold unw dif; omega]
    exact ⟨rfl, rfl⟩
   ·
    replace h7 : ((x % 4294967296) - ((Int.tmod (farL last) 4294967296) + 4294967296)) ≠ 0 := by simpa using h7
    refine Rn 11 (Qc B131 4093) [Qs B131 2047] ⟨50, [(0, I6 (farL last)), (6, I6 0), (9, I6 ((x % 4294967296) - ((Int.tmod (farL last) 4294967296) + 4294967296))), (10, I6 (4294967296 - ((x % 4294967296) - ((Int.tmod (farL last) 4294967296) + 4294967296)))), (43, VB (decide (4294967296 - ((x % 4294967296) - ((Int.tmod (farL last) 4294967296) + 4294967296)) ≤ (x % 4294967296) - ((Int.tmod (farL last) 4294967296) + 4294967296))))], []⟩ ?_
    refine X.split 43 rfl (fun h8 => ?_) (fun h8 => ?_)
    ·
     replace h8 : 4294967296 - ((x % 4294967296) - ((Int.tmod (farL last) 4294967296) + 4294967296)) ≤ (x % 4294967296) - ((Int.tmod (farL last) 4294967296) + 4294967296) := of_decide_eq_true h8
     refine Rn 6 (Qo B131 16372 3) [Qs B131 16373, Qs B131 2047] ⟨50, [(0, I6 (farL last)), (6, I6 0), (9, I6 ((x % 4294967296) - ((Int.tmod (farL last) 4294967296) + 4294967296))), (46, I6 (IntKind.i64.wrap ((farL last) - (4294967296 - ((x % 4294967296) - ((Int.tmod (farL last) 4294967296) + 4294967296))))))], []⟩ ?_
     refine Kn 46 .i64 ((farL last) - (4294967296 - ((x % 4294967296) - ((Int.tmod (farL last) 4294967296) + 4294967296)))) rfl (wi64 (by omega) (by omega)) ?_
     refine Rn 5 (.ex .ret) [] ⟨50, [(6, I6 ((farL last) - (4294967296 - ((x % 4294967296) - ((Int.tmod (farL last) 4294967296) + 4294967296)))))], []⟩ ?_
     refine Dg (.inl rfl) [N6 ((farL last) - (4294967296 - ((x % 4294967296) - ((Int.tmod (farL last) 4294967296) + 4294967296))))] [] rfl ((hG1.trans hG3)) ?_
     rw [show (farL last) - (4294967296 - ((x % 4294967296) - ((Int.tmod (farL last) 4294967296) + 4294967296))) = unw last x by unfold unw dif; omega]
     exact ⟨rfl, rfl⟩
    ·
     replace h8 : ¬ (4294967296 - ((x % 4294967296) - ((Int.tmod (farL last) 4294967296) + 4294967296)) ≤ (x % 4294967296) - ((Int.tmod (farL last) 4294967296) + 4294967296)) := of_decide_eq_false h8
     refine Rn 8 (Qo B131 4094 3) [Qs B131 4095] ⟨50, [(6, I6 0), (49, I6 (IntKind.i64.wrap ((farL last) + ((x % 4294967296) - ((Int.tmod (farL last) 4294967296) + 4294967296)))))], []⟩ ?_
     refine Kn 49 .i64 ((farL last) + ((x % 4294967296) - ((Int.tmod (farL last) 4294967296) + 4294967296))) rfl (wi64 (by omega) (by omega)) ?_
     refine Rn 4 (.ex .ret) [] ⟨50, [(6, I6 ((farL last) + ((x % 4294967296) - ((Int.tmod (farL last) 4294967296) + 4294967296))))], []⟩ ?_
     refine Dg (.inl rfl) [N6 ((farL last) + ((x % 4294967296) - ((Int.tmod (farL last) 4294967296) + 4294967296)))] [] rfl ((hG1.trans hG3)) ?_
     rw [show (farL last) + ((x % 4294967296) - ((Int.tmod (farL last) 4294967296) + 4294967296)) = unw last x by unfold unw dif; omega]
     exact ⟨rfl, rfl⟩
 ·
  replace h2 : ¬ (Int.tmod (farL last) 4294967296 < 0) := of_decide_eq_false h2
  refine Rn 7 (Qo B131 126 2) [Qs B131 127] ⟨50, [(0, I6 (farL last)), (6, I6 0), (7, I6 4294967296), (8, I6 (Int.tmod (farL last) 4294967296)), (24, I7 x), (25, I6 32)], []⟩ ?_
  refine Cg 162 [N7 x, N6 32] 0 (Cut3_ok x _ (by omega)) ?_
  rintro v9 G9 rows9 hG9 ⟨rfl, rfl⟩
  refine Rn 1 (Qo B131 126 4) [Qs B131 127] ⟨50, [(0, I6 (farL last)), (6, I6 0), (7, I6 4294967296), (8, I6 (Int.tmod (farL last) 4294967296)), (27, I6 (IntKind.i64.wrap (x % 4294967296)))], []⟩ ?_
  refine Kn 27 .i64 (x % 4294967296) rfl (wi64 (by omega) (by omega)) ?_
  refine Rn 2 (Qo B131 126 6) [Qs B131 127] ⟨50, [(0, I6 (farL last)), (6, I6 0), (7, I6 4294967296), (29, I6 (IntKind.i64.wrap ((x % 4294967296) - (Int.tmod (farL last) 4294967296))))], []⟩ ?_
  refine Kn 29 .i64 ((x % 4294967296) - (Int.tmod (farL last) 4294967296)) rfl (wi64 (by omega) (by omega)) ?_
  refine Rn 10 (Qc B131 509) [Qs B131 255] ⟨50, [(0, I6 (farL last)), (6, I6 0), (7, I6 4294967296), (9, I6 ((x % 4294967296) - (Int.tmod (farL last) 4294967296))), (31, VB (decide ((x % 4294967296) - (Int.tmod (farL last) 4294967296) < 0)))], []⟩ ?_
  refine X.split 31 rfl (fun h10 => ?_) (fun h10 => ?_)
  ·
   replace h10 : (x % 4294967296) - (Int.tmod (farL last) 4294967296) < 0 := of_decide_eq_true h10
   refine Rn 5 (Qo B131 1018 3) [Qs B131 255] ⟨50, [(0, I6 (farL last)), (6, I6 0), (7, I6 4294967296), (9, I6 ((x % 4294967296) - (Int.tmod (farL last) 4294967296))), (34, I6 (IntKind.i64.wrap (((x % 4294967296) - (Int.tmod (farL last) 4294967296)) + 4294967296)))], []⟩ ?_
   refine Kn 34 .i64 (((x % 4294967296) - (Int.tmod (farL last) 4294967296)) + 4294967296) rfl (wi64 (by omega) (by omega)) ?_
   refine Rn 8 (Qo B131 510 3) [Qs B131 511] ⟨50, [(0, I6 (farL last)), (6, I6 0), (9, I6 (((x % 4294967296) - (Int.tmod (farL last) 4294967296)) + 4294967296)), (37, I6 (IntKind.i64.wrap (4294967296 - (((x % 4294967296) - (Int.tmod (farL last) 4294967296)) + 4294967296))))], []⟩ ?_
   refine Kn 37 .i64 (4294967296 - (((x % 4294967296) - (Int.tmod (farL last) 4294967296)) + 4294967296)) rfl (wi64 (by omega) (by omega)) ?_
   refine Rn 10 (Qc B131 2045) [Qs B131 1023] ⟨50, [(0, I6 (farL last)), (6, I6 0), (9, I6 (((x % 4294967296) - (Int.tmod (farL last) 4294967296)) + 4294967296)), (10, I6 (4294967296 - (((x % 4294967296) - (Int.tmod (farL last) 4294967296)) + 4294967296))), (39, VB ((((x % 4294967296) - (Int.tmod (farL last) 4294967296)) + 4294967296) == 0))], []⟩ ?_
   refine X.split 39 rfl (fun h11 => ?_) (fun h11 => ?_)
   ·
    replace h11 : (((x % 4294967296) - (Int.tmod (farL last) 4294967296)) + 4294967296) = 0 := by simpa using h11
    refine Rn 9 (.ex .ret) [] ⟨50, [(6, I6 (farL last))], []⟩ ?_
    refine Dg (.inl rfl) [N6 (farL last)] [] rfl ((hG1.trans hG9)) ?_
    rw [show farL last = unw last x by unfold unw dif; omega]
    exact ⟨rfl, rfl⟩
   ·
    replace h11 : (((x % 4294967296) - (Int.tmod (farL last) 4294967296)) + 4294967296) ≠ 0 := by simpa using h11
    refine Rn 11 (Qc B131 4093) [Qs B131 2047] ⟨50, [(0, I6 (farL last)), (6, I6 0), (9, I6 (((x % 4294967296) - (Int.tmod (farL last) 4294967296)) + 4294967296)), (10, I6 (4294967296 - (((x % 4294967296) - (Int.tmod (farL last) 4294967296)) + 4294967296))), (43, VB (decide (4294967296 - (((x % 4294967296) - (Int.tmod (farL last) 4294967296)) + 4294967296) ≤ ((x % 4294967296) - (Int.tmod (farL last) 4294967296)) + 4294967296)))], []⟩ ?_
    refine X.split 43 rfl (fun h12 => ?_) (fun h12 => ?_)
    ·
     replace h12 : 4294967296 - (((x % 4294967296) - (Int.tmod (farL last) 4294967296)) + 4294967296) ≤ ((x % 4294967296) - (Int.tmod (farL last) 4294967296)) + 4294967296 := of_decide_eq_true h12
     refine Rn 6 (Qo B131 16372 3) [Qs B131 16373, Qs B131 2047] ⟨50, [(0, I6 (farL last)), (6, I6 0), (9, I6 (((x % 4294967296) - (Int.tmod (farL last) 4294967296)) + 4294967296)), (46, I6 (IntKind.i64.wrap ((farL last) - (4294967296 - (((x % 4294967296) - (Int.tmod (farL last) 4294967296)) + 4294967296)))))], []⟩ ?_
     refine Kn 46 .i64 ((farL last) - (4294967296 - (((x % 4294967296) - (Int.tmod (farL last) 4294967296)) + 4294967296))) rfl (wi64 (by omega) (by omega)) ?_
     refine Rn 5 (.ex .ret) [] ⟨50, [(6, I6 ((farL last) - (4294967296 - (((x % 4294967296) - (Int.tmod (farL last) 4294967296)) + 4294967296))))], []⟩ ?_
     refine Dg (.inl rfl) [N6 ((farL last) - (4294967296 - (((x % 4294967296) - (Int.tmod (farL last) 4294967296)) + 4294967296)))] [] rfl ((hG1.trans hG9)) ?_
     rw [show (farL last) - (4294967296 - (((x % 4294967296) - (Int.tmod (farL last) 4294967296)) + 4294967296)) = unw last x by unfold unw dif; omega]
     exact ⟨rfl, rfl⟩
    ·
     replace h12 : ¬ (4294967296 - (((x % 4294967296) - (Int.tmod (farL last) 4294967296)) + 4294967296) ≤ ((x % 4294967296) - (Int.tmod (farL last) 4294967296)) + 4294967296) := of_decide_eq_false h12
     refine Rn 8 (Qo B131 4094 3) [Qs B131 4095] ⟨50, [(6, I6 0), (49, I6 (IntKind.i64.wrap ((farL last) + (((x % 4294967296) - (Int.tmod (farL last) 4294967296)) + 4294967296))))], []⟩ ?_
     refine Kn 49 .i64 ((farL last) + (((x % 4294967296) - (Int.tmod (farL last) 4294967296)) + 4294967296)) rfl (wi64 (by omega) (by omega)) ?_
     refine Rn 4 (.ex .ret) [] ⟨50, [(6, I6 ((farL last) + (((x % 4294967296) - (Int.tmod (farL last) 4294967296)) + 4294967296)))], []⟩ ?_
     refine Dg (.inl rfl) [N6 ((farL last) + (((x % 4294967296) - (Int.tmod (farL last) 4294967296)) + 4294967296))] [] rfl ((hG1.trans hG9)) ?_
     rw [show (farL last) + (((x % 4294967296) - (Int.tmod (farL last) 4294967296)) + 4294967296) = unw last x by unfold unw dif; omega]
     exact ⟨rfl, rfl⟩
  ·
   replace h10 : ¬ ((x % 4294967296) - (Int.tmod (farL last) 4294967296) < 0) := of_decide_eq_false h10
   refine Rn 8 (Qo B131 510 3) [Qs B131 511] ⟨50, [(0, I6 (farL last)), (6, I6 0), (9, I6 ((x % 4294967296) - (Int.tmod (farL last) 4294967296))), (37, I6 (IntKind.i64.wrap (4294967296 - ((x % 4294967296) - (Int.tmod (farL last) 4294967296)))))], []⟩ ?_
   refine Kn 37 .i64 (4294967296 - ((x % 4294967296) - (Int.tmod (farL last) 4294967296))) rfl (wi64 (by omega) (by omega)) ?_
   refine Rn 10 (Qc B131 2045) [Qs B131 1023] ⟨50, [(0, I6 (farL last)), (6, I6 0), (9, I6 ((x % 4294967296) - (Int.tmod (farL last) 4294967296))), (10, I6 (4294967296 - ((x % 4294967296) - (Int.tmod (farL last) 4294967296)))), (39, VB (((x % 4294967296) - (Int.tmod (farL last) 4294967296)) == 0))], []⟩ ?_
   refine X.split 39 rfl (fun h13 => ?_) (fun h13 => ?_)
   ·
    replace h13 : ((x % 4294967296) - (Int.tmod (farL last) 4294967296)) = 0 := by simpa using h13
    refine Rn 9 (.ex .ret) [] ⟨50, [(6, I6 (farL last))], []⟩ ?_
    refine Dg (.inl rfl) [N6 (farL last)] [] rfl ((hG1.trans hG9)) ?_
    rw [show farL last = unw last x by unfold unw dif; omega]
    exact ⟨rfl, rfl⟩
   ·
    replace h13 : ((x % 4294967296) - (Int.tmod (farL last) 4294967296)) ≠ 0 := by simpa using h13
    refine Rn 11 (Qc B131 4093) [Qs B131 2047] ⟨50, [(0, I6 (farL last)), (6, I6 0), (9, I6 ((x % 4294967296) - (Int.tmod (farL last) 4294967296))), (10, I6 (4294967296 - ((x % 4294967296) - (Int.tmod (farL last) 4294967296)))), (43, VB (decide (4294967296 - ((x % 4294967296) - (Int.tmod (farL last) 4294967296)) ≤ (x % 4294967296) - (Int.tmod (farL last) 4294967296))))], []⟩ ?_
    refine X.split 43 rfl (fun h14 => ?_) (fun h14 => ?_)
    ·
     replace h14 : 4294967296 - ((x % 4294967296) - (Int.tmod (farL last) 4294967296)) ≤ (x % 4294967296) - (Int.tmod (farL last) 4294967296) := of_decide_eq_true h14
     refine Rn 6 (Qo B131 16372 3) [Qs B131 16373, Qs B131 2047] ⟨50, [(0, I6 (farL last)), (6, I6 0), (9, I6 ((x % 4294967296) - (Int.tmod (farL last) 4294967296))), (46, I6 (IntKind.i64.wrap ((farL last) - (4294967296 - ((x % 4294967296) - (Int.tmod (farL last) 4294967296))))))], []⟩ ?_
     refine Kn 46 .i64 ((farL last) - (4294967296 - ((x % 4294967296) - (Int.tmod (farL last) 4294967296)))) rfl (wi64 (by omega) (by omega)) ?_
     refine Rn 5 (.ex .ret) [] ⟨50, [(6, I6 ((farL last) - (4294967296 - ((x % 4294967296) - (Int.tmod (farL last) 4294967296)))))], []⟩ ?_
     refine Dg (.inl rfl) [N6 ((farL last) - (4294967296 - ((x % 4294967296) - (Int.tmod (farL last) 4294967296))))] [] rfl ((hG1.trans hG9)) ?_
     rw [show (farL last) - (4294967296 - ((x % 4294967296) - (Int.tmod (farL last) 4294967296))) = unw last x by unfold unw dif; omega]
     exact ⟨rfl, rfl⟩
    ·
     replace h14 : ¬ (4294967296 - ((x % 4294967296) - (Int.tmod (farL last) 4294967296)) ≤ (x % 4294967296) - (Int.tmod (farL last) 4294967296)) := of_decide_eq_false h14
     refine Rn 8 (Qo B131 4094 3) [Qs B131 4095] ⟨50, [(6, I6 0), (49, I6 (IntKind.i64.wrap ((farL last) + ((x % 4294967296) - (Int.tmod (farL last) 4294967296)))))], []⟩ ?_
     refine Kn 49 .i64 ((farL last) + ((x % 4294967296) - (Int.tmod (farL last) 4294967296))) rfl (wi64 (by omega) (by omega)) ?_
     refine Rn 4 (.ex .ret) [] ⟨50, [(6, I6 ((farL last) + ((x % 4294967296) - (Int.tmod (farL last) 4294967296))))], []⟩ ?_
     refine Dg (.inl rfl) [N6 ((farL last) + ((x % 4294967296) - (Int.tmod (farL last) 4294967296)))] [] rfl ((hG1.trans hG9)) ?_
     rw [show (farL last) + ((x % 4294967296) - (Int.tmod (farL last) 4294967296)) = unw last x by unfold unw dif; omega]
     exact ⟨rfl, rfl⟩
end Go.Proofs.YtjgpdbkkpomhjaaX
