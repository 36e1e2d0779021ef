/- A part of a law's proof. Conditions: none. -/
import Derived.Test.YtjgpdbkkpomhjaaProg
import Derived.KernelRfl
import Derived.Test.YtjgpdbkkpomhjaaQYK0
import Derived.Test.YtjgpdbkkpomhjaaQYT
namespace Go.Proofs.YtjgpdbkkpomhjaaX
open Go.RowKit
open Go.Proofs.YtjgpdbkkpomhjaaW.PrintLast
set_option linter.unusedVariables false
set_option linter.unusedSimpArgs false
set_option maxRecDepth 100000
noncomputable def B161 : Code := bodyOf Try.f161
set_option maxHeartbeats 1000000 in
theorem Round_ok (G : Mem) : CallsG Try.prog 161 [.int .i64 32] G (fun _ v rows => v = .int .i64 4294967296 ∧ rows = []) := by
 refine CallsG.enter Try.func161 rfl rfl ?_
 intro w
 refine Rn 17 (Qc B161 58) [.blk 0, Qs B161 15] _ (X.loopJ (fun m s R' G' => ∃ (i_ : Nat), s = ⟨15, [(0, I6 32), (2, I6 0), (3, I6 (2 ^ i_)), (4, I6 (i_ : Int))], []⟩ ∧ R' = [] ∧ G = G' ∧ (i_ ≤ 32) ∧ m = (33 - i_)) _ ⟨0, rfl, rfl, rfl, Nat.zero_le _, rfl⟩ ?_)
 rintro m1 s1 R1 G1 ⟨i_, rfl, rfl, rfl, hF1, rfl⟩ J1 hJ1
 have hi_ := hF1
 have hp_ := pow_le hi_
 refine Ra 10 (Qc B161 465) 0 [Qs B161 233] [(9, VB (decide ((i_ : Int) < 32)))] ?_
 refine Sd 9 rfl ?_ ?_ <;> intro h2
 ·
  have hp2_ := pow_le (i := i_ + 1) (by omega)
  refine Ra 8 (Qo B161 932 2) 1 [.blk 1, Qs B161 467] [(13, I6 (IntKind.i64.wrap ((2 ^ i_) * 2)))] ?_
  refine Kn 13 .i64 (2 ^ (i_ + 1)) rfl (by rw [pow_step]; rw [pow_step] at hp2_; exact wi64 (by omega) (by omega)) ?_
  refine Ra 7 (Qo B161 467 2) 2 [] [(3, I6 (2 ^ (i_ + 1))), (11, I6 (IntKind.i64.wrap ((i_ : Int) + 1)))] ?_
  refine Kn 11 .i64 ((i_ + 1 : Nat) : Int) rfl (by rw [wi64 (by omega) (by omega)]; push_cast; rfl) ?_
  exact Rn 2 (.ex .normal) [.loop J1, .blk 0, Qs B161 15] _ (X.again (hJ1 _ _ _ _ ⟨(i_ + 1), rfl, rfl, rfl, by omega, rfl⟩ (by omega)))
 ·
  refine Rn 13 (.ex .ret) [] ⟨15, [(2, I6 (2 ^ i_))], []⟩ ?_
  refine Dg (.inl rfl) [N6 (2 ^ i_)] [] rfl (Ge.refl _ _) ?_
  have he_ : i_ = 32 := by omega
  subst he_
  exact ⟨rfl, rfl⟩
noncomputable def B162 : Code := bodyOf Try.f162
set_option maxHeartbeats 1000000 in
theorem Cut3_ok (x : Int) (G : Mem) (hx : 0 ≤ x ∧ x ≤ 18446744073709551615) : CallsG Try.prog 162 [.int .u64 x, .int .i64 32] G (fun _ v rows => v = .int .u64 (x % 4294967296) ∧ rows = []) := by
 refine CallsG.enter Try.func162 rfl rfl ?_
 intro w
 refine Rn 9 (Qo B162 6 2) [Qs B162 7] ⟨10, [(4, I7 0), (5, I7 x), (6, I6 32)], []⟩ ?_
 refine Cg 161 [N6 32] 0 (Round_ok _) ?_
 rintro v1 G1 rows1 hG1 ⟨rfl, rfl⟩
 refine Ra 2 (Qo B162 6 5) 0 [] [(9, I7 (Int.tmod x 4294967296))] ?_
 refine Kn 9 .u64 (x % 4294967296) rfl (Int.tmod_eq_emod_of_nonneg (by omega)) ?_
 refine Rn 4 (.ex .ret) [] ⟨10, [(4, I7 (x % 4294967296))], []⟩ ?_
 refine Dg (.inl rfl) [N7 (x % 4294967296)] [] rfl (hG1) ?_
 exact ⟨rfl, rfl⟩
noncomputable def B131 : Code := bodyOf Try.f131
set_option maxHeartbeats 1000000 in
theorem RUnwrap_ok (last x : Int) (G : Mem) (hx : 0 ≤ x ∧ x ≤ 18446744073709551615) : CallsG Try.prog 131 [.int .i64 last, .int .u64 x, .int .i64 32] G (fun _ v rows => v = .int .i64 (unw last x) ∧ rows = []) := by
 have hf_ := farL_range last
 obtain ⟨⟨q_, hq_⟩, ht1_, ht2_⟩ := tm32 (farL last)
 refine CallsG.enter Try.func131 rfl rfl ?_
 intro w
 refine Rn 9 (Qo B131 6 2) [Qs B131 7] ⟨50, [(0, I6 last), (1, I7 x), (2, I6 32), (6, I6 0), (12, I6 (imax last (-4611686018427387904)))], []⟩ ?_
 refine Kn 12 .i64 (max last (-4611686018427387904)) rfl (by simp only [imin_eq, imax_eq]) ?_
 refine Ra 1 (Qo B131 6 3) 0 [] [(13, I6 (imin (max last (-4611686018427387904)) 4611686018427387904))] ?_
 refine Kn 13 .i64 (farL last) rfl (by simp only [imin_eq, imax_eq]; unfold farL; omega) ?_
 refine Ra 6 (Qo B131 14 1) 1 [Qs B131 15] [(0, I6 (farL last)), (14, I6 32)] ?_
 refine Cg 161 [N6 32] 0 (Round_ok _) ?_
 rintro v1 G1 rows1 hG1 ⟨rfl, rfl⟩
 refine Ra 18 (Qc B131 125) 1 [Qs B131 63] [(7, I6 4294967296), (8, I6 (Int.tmod (farL last) 4294967296)), (20, VB (decide (Int.tmod (farL last) 4294967296 < 0)))] ?_
 refine Sd 20 rfl ?_ ?_ <;> intro h2
 ·
  refine Ra 5 (Qo B131 250 3) 0 [] [(23, I6 (IntKind.i64.wrap ((Int.tmod (farL last) 4294967296) + 4294967296)))] ?_
  refine Kn 23 .i64 ((Int.tmod (farL last) 4294967296) + 4294967296) rfl (wi64 (by omega) (by omega)) ?_
  refine Ra 7 (Qo B131 126 2) 1 [Qs B131 127] [(8, I6 ((Int.tmod (farL last) 4294967296) + 4294967296)), (24, I7 x), (25, I6 32)] ?_
  refine Cg 162 [N7 x, N6 32] 0 (Cut3_ok x _ (by omega)) ?_
  rintro v3 G3 rows3 hG3 ⟨rfl, rfl⟩
  refine Ra 1 (Qo B131 126 4) 0 [] [(27, I6 (IntKind.i64.wrap (x % 4294967296)))] ?_
  refine Kn 27 .i64 (x % 4294967296) rfl (wi64 (by omega) (by omega)) ?_
  refine Rc 2 (Qo B131 126 6) 0 [] [(29, I6 (IntKind.i64.wrap ((x % 4294967296) - ((Int.tmod (farL last) 4294967296) + 4294967296))))] [8] ?_
  refine Kn 29 .i64 ((x % 4294967296) - ((Int.tmod (farL last) 4294967296) + 4294967296)) rfl (wi64 (by omega) (by omega)) ?_
  refine Ra 10 (Qc B131 509) 1 [Qs B131 255] [(9, I6 ((x % 4294967296) - ((Int.tmod (farL last) 4294967296) + 4294967296))), (31, VB (decide ((x % 4294967296) - ((Int.tmod (farL last) 4294967296) + 4294967296) < 0)))] ?_
  refine Sd 31 rfl ?_ ?_ <;> intro h4
  ·
   refine Ra 5 (Qo B131 1018 3) 0 [] [(34, I6 (IntKind.i64.wrap (((x % 4294967296) - ((Int.tmod (farL last) 4294967296) + 4294967296)) + 4294967296)))] ?_
   refine Kn 34 .i64 (((x % 4294967296) - ((Int.tmod (farL last) 4294967296) + 4294967296)) + 4294967296) rfl (wi64 (by omega) (by omega)) ?_
   refine Rc 8 (Qo B131 510 3) 1 [Qs B131 511] [(9, I6 (((x % 4294967296) - ((Int.tmod (farL last) 4294967296) + 4294967296)) + 4294967296)), (37, I6 (IntKind.i64.wrap (4294967296 - (((x % 4294967296) - ((Int.tmod (farL last) 4294967296) + 4294967296)) + 4294967296))))] [7] ?_
   refine Kn 37 .i64 (4294967296 - (((x % 4294967296) - ((Int.tmod (farL last) 4294967296) + 4294967296)) + 4294967296)) rfl (wi64 (by omega) (by omega)) ?_
   refine Ra 10 (Qc B131 2045) 1 [Qs B131 1023] [(10, I6 (4294967296 - (((x % 4294967296) - ((Int.tmod (farL last) 4294967296) + 4294967296)) + 4294967296))), (39, VB ((((x % 4294967296) - ((Int.tmod (farL last) 4294967296) + 4294967296)) + 4294967296) == 0))] ?_
   refine Se 39 rfl ?_ ?_ <;> intro h5
   ·
    refine Rn 9 (.ex .ret) [] ⟨50, [(6, I6 (farL last))], []⟩ ?_
    refine Dg (.inl rfl) [N6 (farL last)] [] rfl ((hG1.trans hG3)) ?_
    rw [show farL last = unw last x by unfold unw dif; omega]
    exact ⟨rfl, rfl⟩
   ·
    refine Ra 11 (Qc B131 4093) 1 [Qs B131 2047] [(43, VB (decide (4294967296 - (((x % 4294967296) - ((Int.tmod (farL last) 4294967296) + 4294967296)) + 4294967296) ≤ ((x % 4294967296) - ((Int.tmod (farL last) 4294967296) + 4294967296)) + 4294967296)))] ?_
    refine Sd 43 rfl ?_ ?_ <;> intro h6
    ·
     refine Rn 6 (Qo B131 16372 3) [Qs B131 16373, Qs B131 2047] ⟨50, [(0, I6 (farL last)), (6, I6 0), (9, I6 (((x % 4294967296) - ((Int.tmod (farL last) 4294967296) + 4294967296)) + 4294967296)), (46, I6 (IntKind.i64.wrap ((farL last) - (4294967296 - (((x % 4294967296) - ((Int.tmod (farL last) 4294967296) + 4294967296)) + 4294967296)))))], []⟩ ?_
     refine Kn 46 .i64 ((farL last) - (4294967296 - (((x % 4294967296) - ((Int.tmod (farL last) 4294967296) + 4294967296)) + 4294967296))) rfl (wi64 (by omega) (by omega)) ?_
     refine Rc 5 (.ex .ret) 2 [] [(6, I6 ((farL last) - (4294967296 - (((x % 4294967296) - ((Int.tmod (farL last) 4294967296) + 4294967296)) + 4294967296))))] [0, 9, 46] ?_
     refine Dg (.inl rfl) [N6 ((farL last) - (4294967296 - (((x % 4294967296) - ((Int.tmod (farL last) 4294967296) + 4294967296)) + 4294967296)))] [] rfl ((hG1.trans hG3)) ?_
     rw [show (farL last) - (4294967296 - (((x % 4294967296) - ((Int.tmod (farL last) 4294967296) + 4294967296)) + 4294967296)) = unw last x by unfold unw dif; omega]
     exact ⟨rfl, rfl⟩
    ·
     refine Rn 8 (Qo B131 4094 3) [Qs B131 4095] ⟨50, [(6, I6 0), (49, I6 (IntKind.i64.wrap ((farL last) + (((x % 4294967296) - ((Int.tmod (farL last) 4294967296) + 4294967296)) + 4294967296))))], []⟩ ?_
     refine Kn 49 .i64 ((farL last) + (((x % 4294967296) - ((Int.tmod (farL last) 4294967296) + 4294967296)) + 4294967296)) rfl (wi64 (by omega) (by omega)) ?_
     refine Rc 4 (.ex .ret) 1 [] [(6, I6 ((farL last) + (((x % 4294967296) - ((Int.tmod (farL last) 4294967296) + 4294967296)) + 4294967296)))] [49] ?_
     refine Dg (.inl rfl) [N6 ((farL last) + (((x % 4294967296) - ((Int.tmod (farL last) 4294967296) + 4294967296)) + 4294967296))] [] rfl ((hG1.trans hG3)) ?_
     rw [show (farL last) + (((x % 4294967296) - ((Int.tmod (farL last) 4294967296) + 4294967296)) + 4294967296) = unw last x by unfold unw dif; omega]
     exact ⟨rfl, rfl⟩
  ·
   refine Rc 8 (Qo B131 510 3) 1 [Qs B131 511] [(37, I6 (IntKind.i64.wrap (4294967296 - ((x % 4294967296) - ((Int.tmod (farL last) 4294967296) + 4294967296)))))] [7] ?_
   refine Kn 37 .i64 (4294967296 - ((x % 4294967296) - ((Int.tmod (farL last) 4294967296) + 4294967296))) rfl (wi64 (by omega) (by omega)) ?_
   refine Ra 10 (Qc B131 2045) 1 [Qs B131 1023] [(10, I6 (4294967296 - ((x % 4294967296) - ((Int.tmod (farL last) 4294967296) + 4294967296)))), (39, VB (((x % 4294967296) - ((Int.tmod (farL last) 4294967296) + 4294967296)) == 0))] ?_
   refine Se 39 rfl ?_ ?_ <;> intro h7
   ·
    refine Rn 9 (.ex .ret) [] ⟨50, [(6, I6 (farL last))], []⟩ ?_
    refine Dg (.inl rfl) [N6 (farL last)] [] rfl ((hG1.trans hG3)) ?_
    rw [show farL last = unw last x by unfold unw dif; omega]
    exact ⟨rfl, rfl⟩
   ·
    refine Ra 11 (Qc B131 4093) 1 [Qs B131 2047] [(43, VB (decide (4294967296 - ((x % 4294967296) - ((Int.tmod (farL last) 4294967296) + 4294967296)) ≤ (x % 4294967296) - ((Int.tmod (farL last) 4294967296) + 4294967296))))] ?_
    refine Sd 43 rfl ?_ ?_ <;> intro h8
    ·
     refine Rc 6 (Qo B131 16372 3) 0 [Qs B131 16373] [(46, I6 (IntKind.i64.wrap ((farL last) - (4294967296 - ((x % 4294967296) - ((Int.tmod (farL last) 4294967296) + 4294967296))))))] [10] ?_
     refine Kn 46 .i64 ((farL last) - (4294967296 - ((x % 4294967296) - ((Int.tmod (farL last) 4294967296) + 4294967296)))) rfl (wi64 (by omega) (by omega)) ?_
     refine Rn 5 (.ex .ret) [] ⟨50, [(6, I6 ((farL last) - (4294967296 - ((x % 4294967296) - ((Int.tmod (farL last) 4294967296) + 4294967296)))))], []⟩ ?_
     refine Dg (.inl rfl) [N6 ((farL last) - (4294967296 - ((x % 4294967296) - ((Int.tmod (farL last) 4294967296) + 4294967296))))] [] rfl ((hG1.trans hG3)) ?_
     rw [show (farL last) - (4294967296 - ((x % 4294967296) - ((Int.tmod (farL last) 4294967296) + 4294967296))) = unw last x by unfold unw dif; omega]
     exact ⟨rfl, rfl⟩
    ·
     refine Rc 8 (Qo B131 4094 3) 1 [Qs B131 4095] [(49, I6 (IntKind.i64.wrap ((farL last) + ((x % 4294967296) - ((Int.tmod (farL last) 4294967296) + 4294967296)))))] [0, 9, 10] ?_
     refine Kn 49 .i64 ((farL last) + ((x % 4294967296) - ((Int.tmod (farL last) 4294967296) + 4294967296))) rfl (wi64 (by omega) (by omega)) ?_
     refine Rn 4 (.ex .ret) [] ⟨50, [(6, I6 ((farL last) + ((x % 4294967296) - ((Int.tmod (farL last) 4294967296) + 4294967296))))], []⟩ ?_
     refine Dg (.inl rfl) [N6 ((farL last) + ((x % 4294967296) - ((Int.tmod (farL last) 4294967296) + 4294967296)))] [] rfl ((hG1.trans hG3)) ?_
     rw [show (farL last) + ((x % 4294967296) - ((Int.tmod (farL last) 4294967296) + 4294967296)) = unw last x by unfold unw dif; omega]
     exact ⟨rfl, rfl⟩
 ·
  refine Ra 7 (Qo B131 126 2) 1 [Qs B131 127] [(24, I7 x), (25, I6 32)] ?_
  refine Cg 162 [N7 x, N6 32] 0 (Cut3_ok x _ (by omega)) ?_
  rintro v9 G9 rows9 hG9 ⟨rfl, rfl⟩
  refine Ra 1 (Qo B131 126 4) 0 [] [(27, I6 (IntKind.i64.wrap (x % 4294967296)))] ?_
  refine Kn 27 .i64 (x % 4294967296) rfl (wi64 (by omega) (by omega)) ?_
  refine Rc 2 (Qo B131 126 6) 0 [] [(29, I6 (IntKind.i64.wrap ((x % 4294967296) - (Int.tmod (farL last) 4294967296))))] [8] ?_
  refine Kn 29 .i64 ((x % 4294967296) - (Int.tmod (farL last) 4294967296)) rfl (wi64 (by omega) (by omega)) ?_
  refine Ra 10 (Qc B131 509) 1 [Qs B131 255] [(9, I6 ((x % 4294967296) - (Int.tmod (farL last) 4294967296))), (31, VB (decide ((x % 4294967296) - (Int.tmod (farL last) 4294967296) < 0)))] ?_
  refine Sd 31 rfl ?_ ?_ <;> intro h10
  ·
   refine Ra 5 (Qo B131 1018 3) 0 [] [(34, I6 (IntKind.i64.wrap (((x % 4294967296) - (Int.tmod (farL last) 4294967296)) + 4294967296)))] ?_
   refine Kn 34 .i64 (((x % 4294967296) - (Int.tmod (farL last) 4294967296)) + 4294967296) rfl (wi64 (by omega) (by omega)) ?_
   refine Rc 8 (Qo B131 510 3) 1 [Qs B131 511] [(9, I6 (((x % 4294967296) - (Int.tmod (farL last) 4294967296)) + 4294967296)), (37, I6 (IntKind.i64.wrap (4294967296 - (((x % 4294967296) - (Int.tmod (farL last) 4294967296)) + 4294967296))))] [7] ?_
   refine Kn 37 .i64 (4294967296 - (((x % 4294967296) - (Int.tmod (farL last) 4294967296)) + 4294967296)) rfl (wi64 (by omega) (by omega)) ?_
   refine Ra 10 (Qc B131 2045) 1 [Qs B131 1023] [(10, I6 (4294967296 - (((x % 4294967296) - (Int.tmod (farL last) 4294967296)) + 4294967296))), (39, VB ((((x % 4294967296) - (Int.tmod (farL last) 4294967296)) + 4294967296) == 0))] ?_
   refine Se 39 rfl ?_ ?_ <;> intro h11
   ·
    refine Rn 9 (.ex .ret) [] ⟨50, [(6, I6 (farL last))], []⟩ ?_
    refine Dg (.inl rfl) [N6 (farL last)] [] rfl ((hG1.trans hG9)) ?_
    rw [show farL last = unw last x by unfold unw dif; omega]
    exact ⟨rfl, rfl⟩
   ·
    refine Ra 11 (Qc B131 4093) 1 [Qs B131 2047] [(43, VB (decide (4294967296 - (((x % 4294967296) - (Int.tmod (farL last) 4294967296)) + 4294967296) ≤ ((x % 4294967296) - (Int.tmod (farL last) 4294967296)) + 4294967296)))] ?_
    refine Sd 43 rfl ?_ ?_ <;> intro h12
    ·
     refine Rc 6 (Qo B131 16372 3) 0 [Qs B131 16373] [(46, I6 (IntKind.i64.wrap ((farL last) - (4294967296 - (((x % 4294967296) - (Int.tmod (farL last) 4294967296)) + 4294967296)))))] [10] ?_
     refine Kn 46 .i64 ((farL last) - (4294967296 - (((x % 4294967296) - (Int.tmod (farL last) 4294967296)) + 4294967296))) rfl (wi64 (by omega) (by omega)) ?_
     refine Rn 5 (.ex .ret) [] ⟨50, [(6, I6 ((farL last) - (4294967296 - (((x % 4294967296) - (Int.tmod (farL last) 4294967296)) + 4294967296))))], []⟩ ?_
     refine Dg (.inl rfl) [N6 ((farL last) - (4294967296 - (((x % 4294967296) - (Int.tmod (farL last) 4294967296)) + 4294967296)))] [] rfl ((hG1.trans hG9)) ?_
     rw [show (farL last) - (4294967296 - (((x % 4294967296) - (Int.tmod (farL last) 4294967296)) + 4294967296)) = unw last x by unfold unw dif; omega]
     exact ⟨rfl, rfl⟩
    ·
     refine Rc 8 (Qo B131 4094 3) 1 [Qs B131 4095] [(49, I6 (IntKind.i64.wrap ((farL last) + (((x % 4294967296) - (Int.tmod (farL last) 4294967296)) + 4294967296))))] [0, 9, 10] ?_
     refine Kn 49 .i64 ((farL last) + (((x % 4294967296) - (Int.tmod (farL last) 4294967296)) + 4294967296)) rfl (wi64 (by omega) (by omega)) ?_
     refine Rn 4 (.ex .ret) [] ⟨50, [(6, I6 ((farL last) + (((x % 4294967296) - (Int.tmod (farL last) 4294967296)) + 4294967296)))], []⟩ ?_
     refine Dg (.inl rfl) [N6 ((farL last) + (((x % 4294967296) - (Int.tmod (farL last) 4294967296)) + 4294967296))] [] rfl ((hG1.trans hG9)) ?_
     rw [show (farL last) + (((x % 4294967296) - (Int.tmod (farL last) 4294967296)) + 4294967296) = unw last x by unfold unw dif; omega]
     exact ⟨rfl, rfl⟩
  ·
   refine Rc 8 (Qo B131 510 3) 1 [Qs B131 511] [(37, I6 (IntKind.i64.wrap (4294967296 - ((x % 4294967296) - (Int.tmod (farL last) 4294967296)))))] [7] ?_
   refine Kn 37 .i64 (4294967296 - ((x % 4294967296) - (Int.tmod (farL last) 4294967296))) rfl (wi64 (by omega) (by omega)) ?_
   refine Ra 10 (Qc B131 2045) 1 [Qs B131 1023] [(10, I6 (4294967296 - ((x % 4294967296) - (Int.tmod (farL last) 4294967296)))), (39, VB (((x % 4294967296) - (Int.tmod (farL last) 4294967296)) == 0))] ?_
   refine Se 39 rfl ?_ ?_ <;> intro h13
   ·
    refine Rn 9 (.ex .ret) [] ⟨50, [(6, I6 (farL last))], []⟩ ?_
    refine Dg (.inl rfl) [N6 (farL last)] [] rfl ((hG1.trans hG9)) ?_
    rw [show farL last = unw last x by unfold unw dif; omega]
    exact ⟨rfl, rfl⟩
   ·
    refine Ra 11 (Qc B131 4093) 1 [Qs B131 2047] [(43, VB (decide (4294967296 - ((x % 4294967296) - (Int.tmod (farL last) 4294967296)) ≤ (x % 4294967296) - (Int.tmod (farL last) 4294967296))))] ?_
    refine Sd 43 rfl ?_ ?_ <;> intro h14
    ·
     refine Rc 6 (Qo B131 16372 3) 0 [Qs B131 16373] [(46, I6 (IntKind.i64.wrap ((farL last) - (4294967296 - ((x % 4294967296) - (Int.tmod (farL last) 4294967296))))))] [10] ?_
     refine Kn 46 .i64 ((farL last) - (4294967296 - ((x % 4294967296) - (Int.tmod (farL last) 4294967296)))) rfl (wi64 (by omega) (by omega)) ?_
     refine Rn 5 (.ex .ret) [] ⟨50, [(6, I6 ((farL last) - (4294967296 - ((x % 4294967296) - (Int.tmod (farL last) 4294967296)))))], []⟩ ?_
     refine Dg (.inl rfl) [N6 ((farL last) - (4294967296 - ((x % 4294967296) - (Int.tmod (farL last) 4294967296))))] [] rfl ((hG1.trans hG9)) ?_
     rw [show (farL last) - (4294967296 - ((x % 4294967296) - (Int.tmod (farL last) 4294967296))) = unw last x by unfold unw dif; omega]
     exact ⟨rfl, rfl⟩
    ·
     refine Rc 8 (Qo B131 4094 3) 1 [Qs B131 4095] [(49, I6 (IntKind.i64.wrap ((farL last) + ((x % 4294967296) - (Int.tmod (farL last) 4294967296)))))] [0, 9, 10] ?_
     refine Kn 49 .i64 ((farL last) + ((x % 4294967296) - (Int.tmod (farL last) 4294967296))) rfl (wi64 (by omega) (by omega)) ?_
     refine Rn 4 (.ex .ret) [] ⟨50, [(6, I6 ((farL last) + ((x % 4294967296) - (Int.tmod (farL last) 4294967296))))], []⟩ ?_
     refine Dg (.inl rfl) [N6 ((farL last) + ((x % 4294967296) - (Int.tmod (farL last) 4294967296)))] [] rfl ((hG1.trans hG9)) ?_
     rw [show (farL last) + ((x % 4294967296) - (Int.tmod (farL last) 4294967296)) = unw last x by unfold unw dif; omega]
     exact ⟨rfl, rfl⟩
end Go.Proofs.YtjgpdbkkpomhjaaX
