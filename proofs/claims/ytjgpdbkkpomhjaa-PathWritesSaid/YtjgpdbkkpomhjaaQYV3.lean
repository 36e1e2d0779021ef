/- A part of a law's proof. Conditions: none. -/
import Derived.Test.YtjgpdbkkpomhjaaProg
import Derived.KernelRfl
import Derived.Test.YtjgpdbkkpomhjaaQYV2
import Derived.Test.YtjgpdbkkpomhjaaQYT
namespace Go.Proofs.YtjgpdbkkpomhjaaX
open Go.RowKit
open Go.Proofs.YtjgpdbkkpomhjaaW.PrintLast
set_option linter.unusedVariables false
set_option linter.unusedSimpArgs false
set_option maxRecDepth 100000
noncomputable def B117 : Code := bodyOf Try.f117
set_option maxHeartbeats 1000000 in
theorem low_ok (n : Int) (h : (-9223372036854775808 ≤ n ∧ n ≤ 9223372036854775807)) (G : Mem) : CallsG Try.prog 117 [.int .i64 n] G (fun _ v rows => v = .int .u32 (n % 16777216) ∧ rows = []) := by
 refine CallsG.enter Try.func117 rfl rfl ?_
 intro w
 refine Rn 19 (Qc B117 29) [Qs B117 15] ⟨12, [(2, I3 0), (3, I6 (Int.tmod n 16777216)), (7, VB (decide (Int.tmod n 16777216 < 0)))], []⟩ ?_
 refine Sd 7 rfl ?_ ?_ <;> intro h1
 ·
  refine Rn 15 (.ex .ret) [] ⟨12, [(2, I3 (IntKind.u32.wrap (IntKind.i64.wrap ((Int.tmod n 16777216) + 16777216))))], []⟩ ?_
  refine Dg (.inl rfl) [N3 (IntKind.u32.wrap (IntKind.i64.wrap ((Int.tmod n 16777216) + 16777216)))] [] rfl (Ge.refl _ _) ?_
  have hq_ := Int.mul_tdiv_add_tmod n 16777216
  have ha_ := Int.lt_tmod_of_pos n (show (0 : Int) < 16777216 by decide)
  have hb_ := Int.tmod_lt_of_pos n (show (0 : Int) < 16777216 by decide)
  refine ⟨?_, rfl⟩
  rw [show IntKind.i64.wrap (Int.tmod n 16777216 + 16777216) = n % 16777216 by rw [wi64 (by omega) (by omega)]; omega, wu32 (by omega) (by omega)]
  rfl
 ·
  refine Rn 11 (.ex .ret) [] ⟨12, [(2, I3 (IntKind.u32.wrap (Int.tmod n 16777216)))], []⟩ ?_
  refine Dg (.inl rfl) [N3 (IntKind.u32.wrap (Int.tmod n 16777216))] [] rfl (Ge.refl _ _) ?_
  have hq_ := Int.mul_tdiv_add_tmod n 16777216
  have ha_ := Int.lt_tmod_of_pos n (show (0 : Int) < 16777216 by decide)
  have hb_ := Int.tmod_lt_of_pos n (show (0 : Int) < 16777216 by decide)
  refine ⟨?_, rfl⟩
  rw [show Int.tmod n 16777216 = n % 16777216 by omega, wu32 (by omega) (by omega)]
  rfl
noncomputable def B57 : Code := bodyOf Try.f57
noncomputable def B55 : Code := bodyOf Try.f55
set_option maxHeartbeats 1000000 in
theorem rCounters_ok (k1 : Int) (A : Option Addr) (ca : Nat) (xs : List Int) (s1 : ByteArray) (G : Mem) (hx : rowAt (D.int .u32) G A xs) (hxc : xs.length ≤ ca) (hxm : ca ≤ maxLen) : CallsG Try.prog 55 [.agg #[.int .i64 k1, .slice A xs.length ca, .string s1]] G (fun _ v rows => v = .agg #[.int .i64 (ct k1 xs 0), .int .i64 (ct k1 xs 1), .int .i64 (ct k1 xs 2)] ∧ rows = []) := by
 simp only [maxLen] at hxm
 refine CallsG.enter Try.func55 rfl rfl ?_
 intro w
 refine Rn 20 (Qc B55 58) [.blk 0, Qs B55 15] ⟨41, [(1, .own 1 0), (2, .own 2 0), (3, .own 3 0), (4, I6 0)], [(1, ⟨65, [I6 k1, VL A xs.length ca, VT s1]⟩), (2, ⟨70, [I6 0, I6 0, I6 0]⟩), (3, ⟨70, [I6 (-1), I6 (-1), I6 (-1)]⟩)]⟩ ?_
 refine X.rounds 5 ?_
 refine RX.succ fun J1 hJ1 => ?_
 refine Rn 9 (Qo B55 464 6) [Qs B55 465, Qs B55 233, .loop J1, .blk 0, Qs B55 15] ⟨41, [(1, .own 1 0), (2, .own 2 0), (3, .own 3 0), (4, I6 0), (6, I6 0), (7, .own 1 1), (8, VL A xs.length ca), (9, I6 (xs.length : Int)), (10, VB (decide (0 < (xs.length : Int)))), (11, VB (decide (0 < (xs.length : Int))))], [(1, ⟨65, [I6 k1, VL A xs.length ca, VT s1]⟩), (2, ⟨70, [I6 0, I6 0, I6 0]⟩), (3, ⟨70, [I6 (-1), I6 (-1), I6 (-1)]⟩)]⟩ ?_
 refine Sd 11 rfl ?_ ?_ <;> intro h2
 ·
  refine Ra 18 (Qc B55 3729) 2 [Qs B55 1865, .blk 1, Qs B55 467] [(11, VB true), (12, I6 0), (13, VB true), (14, VB true), (17, .own 1 0), (18, I6 k1), (19, VB (k1 == 172))] ?_
  refine Se 19 rfl ?_ ?_ <;> intro h3
  ·
   refine Ra 6 (Qo B55 7458 4) 0 [] [(19, VB true), (20, I6 0), (21, .own 1 1), (22, VL A xs.length ca), (23, I6 0)] ?_
   refine Ix 63 29 1 A xs.length ca .i64 0 (.tmp 22) (.tmp 23) (by omega) (by omega) (fun _ _ => rowAt.so hx (by omega)) ?_
   obtain ⟨at6, lo6, hi6⟩ := At.int [] hx 0 (by omega)
   simp only [IntKind.lo, IntKind.hi] at lo6 hi6
   refine Ld 29 A (0 * 1) (.tmp 24) (N3 (xs.getD 0 0)) [N3 (xs.getD 0 0)] at6 ?_
   refine Ra 1 (Qo B55 7458 7) 0 [] [(24, .v (elt A (0 * 1))), (25, I3 (xs.getD 0 0)), (26, I6 (IntKind.i64.wrap (xs.getD 0 0)))] ?_
   refine Kn 26 .i64 (xs.getD 0 0) rfl (wi64 (by omega) (by omega)) ?_
   refine Rb 11 (Qc B55 3731) 1 [] [(26, I6 (xs.getD 0 0)), (27, .own 3 0), (28, .own 1 0), (29, I6 k1), (30, VB (k1 == 174))] [] [(3, ⟨70, [I6 (xs.getD 0 0), I6 (-1), I6 (-1)]⟩)] [] ?_
   refine X.isFalse 30 rfl (by simp; omega) ?_
   refine Rn 9 (.ex .normal) [.loop J1, .blk 0, Qs B55 15] ⟨41, [(1, .own 1 0), (2, .own 2 0), (3, .own 3 0), (4, I6 1), (6, I6 0), (7, .own 1 1), (8, VL A xs.length ca), (9, I6 (xs.length : Int)), (10, VB (decide (0 < (xs.length : Int)))), (11, VB true), (12, I6 0), (13, VB true), (14, VB true), (15, I6 0), (16, I6 1), (17, .own 1 0), (18, I6 k1), (19, VB true), (20, I6 0), (21, .own 1 1), (22, VL A xs.length ca), (23, I6 0), (24, .v (elt A (0 * 1))), (25, I3 (xs.getD 0 0)), (26, I6 (xs.getD 0 0)), (27, .own 3 0), (28, .own 1 0), (29, I6 k1), (30, VB false)], [(1, ⟨65, [I6 k1, VL A xs.length ca, VT s1]⟩), (2, ⟨70, [I6 0, I6 0, I6 0]⟩), (3, ⟨70, [I6 (xs.getD 0 0), I6 (-1), I6 (-1)]⟩)]⟩ ?_
   refine X.again (hJ1 _ _ _ ?_)
   refine RX.succ fun J7 hJ7 => ?_
   refine Rn 9 (Qo B55 464 6) [Qs B55 465, Qs B55 233, .loop J7, .blk 0, Qs B55 15] ⟨41, [(1, .own 1 0), (2, .own 2 0), (3, .own 3 0), (4, I6 1), (6, I6 1), (7, .own 1 1), (8, VL A xs.length ca), (9, I6 (xs.length : Int)), (10, VB (decide (1 < (xs.length : Int)))), (11, VB (decide (1 < (xs.length : Int)))), (12, I6 0), (13, VB true), (14, VB true), (15, I6 0), (16, I6 1), (17, .own 1 0), (18, I6 k1), (19, VB true), (20, I6 0), (21, .own 1 1), (22, VL A xs.length ca), (23, I6 0), (24, .v (elt A (0 * 1))), (25, I3 (xs.getD 0 0)), (26, I6 (xs.getD 0 0)), (27, .own 3 0), (28, .own 1 0), (29, I6 k1), (30, VB false)], [(1, ⟨65, [I6 k1, VL A xs.length ca, VT s1]⟩), (2, ⟨70, [I6 0, I6 0, I6 0]⟩), (3, ⟨70, [I6 (xs.getD 0 0), I6 (-1), I6 (-1)]⟩)]⟩ ?_
   refine Sd 11 rfl ?_ ?_ <;> intro h8
   ·
    refine Ra 18 (Qc B55 3729) 2 [Qs B55 1865, .blk 1, Qs B55 467] [(11, VB true), (12, I6 1), (19, VB (k1 == 172))] ?_
    refine X.isTrue 19 rfl (by simpa using (show k1 = 172 by assumption)) ?_
    refine Ra 6 (Qo B55 7458 4) 0 [] [(19, VB true), (20, I6 1), (23, I6 1)] ?_
    refine Ix 63 29 1 A xs.length ca .i64 1 (.tmp 22) (.tmp 23) (by omega) (by omega) (fun _ _ => rowAt.so hx (by omega)) ?_
    obtain ⟨at11, lo11, hi11⟩ := At.int [] hx 1 (by omega)
    simp only [IntKind.lo, IntKind.hi] at lo11 hi11
    refine Ld 29 A (1 * 1) (.tmp 24) (N3 (xs.getD 1 0)) [N3 (xs.getD 1 0)] at11 ?_
    refine Ra 1 (Qo B55 7458 7) 0 [] [(24, .v (elt A (1 * 1))), (25, I3 (xs.getD 1 0)), (26, I6 (IntKind.i64.wrap (xs.getD 1 0)))] ?_
    refine Kn 26 .i64 (xs.getD 1 0) rfl (wi64 (by omega) (by omega)) ?_
    refine Rb 11 (Qc B55 3731) 1 [] [(26, I6 (xs.getD 1 0)), (27, .own 3 1), (30, VB (k1 == 174))] [] [(3, ⟨70, [I6 (xs.getD 0 0), I6 (xs.getD 1 0), I6 (-1)]⟩)] [] ?_
    refine X.isFalse 30 rfl (by simp; omega) ?_
    refine Rn 9 (.ex .normal) [.loop J7, .blk 0, Qs B55 15] ⟨41, [(1, .own 1 0), (2, .own 2 0), (3, .own 3 0), (4, I6 2), (6, I6 1), (7, .own 1 1), (8, VL A xs.length ca), (9, I6 (xs.length : Int)), (10, VB (decide (1 < (xs.length : Int)))), (11, VB true), (12, I6 1), (13, VB true), (14, VB true), (15, I6 1), (16, I6 2), (17, .own 1 0), (18, I6 k1), (19, VB true), (20, I6 1), (21, .own 1 1), (22, VL A xs.length ca), (23, I6 1), (24, .v (elt A (1 * 1))), (25, I3 (xs.getD 1 0)), (26, I6 (xs.getD 1 0)), (27, .own 3 1), (28, .own 1 0), (29, I6 k1), (30, VB false)], [(1, ⟨65, [I6 k1, VL A xs.length ca, VT s1]⟩), (2, ⟨70, [I6 0, I6 0, I6 0]⟩), (3, ⟨70, [I6 (xs.getD 0 0), I6 (xs.getD 1 0), I6 (-1)]⟩)]⟩ ?_
    refine X.again (hJ7 _ _ _ ?_)
    refine RX.succ fun J12 hJ12 => ?_
    refine Rn 9 (Qo B55 464 6) [Qs B55 465, Qs B55 233, .loop J12, .blk 0, Qs B55 15] ⟨41, [(1, .own 1 0), (2, .own 2 0), (3, .own 3 0), (4, I6 2), (6, I6 2), (7, .own 1 1), (8, VL A xs.length ca), (9, I6 (xs.length : Int)), (10, VB (decide (2 < (xs.length : Int)))), (11, VB (decide (2 < (xs.length : Int)))), (12, I6 1), (13, VB true), (14, VB true), (15, I6 1), (16, I6 2), (17, .own 1 0), (18, I6 k1), (19, VB true), (20, I6 1), (21, .own 1 1), (22, VL A xs.length ca), (23, I6 1), (24, .v (elt A (1 * 1))), (25, I3 (xs.getD 1 0)), (26, I6 (xs.getD 1 0)), (27, .own 3 1), (28, .own 1 0), (29, I6 k1), (30, VB false)], [(1, ⟨65, [I6 k1, VL A xs.length ca, VT s1]⟩), (2, ⟨70, [I6 0, I6 0, I6 0]⟩), (3, ⟨70, [I6 (xs.getD 0 0), I6 (xs.getD 1 0), I6 (-1)]⟩)]⟩ ?_
    refine Sd 11 rfl ?_ ?_ <;> intro h13
    ·
     refine Ra 18 (Qc B55 3729) 2 [Qs B55 1865, .blk 1, Qs B55 467] [(11, VB true), (12, I6 2), (19, VB (k1 == 172))] ?_
     refine X.isTrue 19 rfl (by simpa using (show k1 = 172 by assumption)) ?_
     refine Ra 6 (Qo B55 7458 4) 0 [] [(19, VB true), (20, I6 2), (23, I6 2)] ?_
     refine Ix 63 29 1 A xs.length ca .i64 2 (.tmp 22) (.tmp 23) (by omega) (by omega) (fun _ _ => rowAt.so hx (by omega)) ?_
     obtain ⟨at16, lo16, hi16⟩ := At.int [] hx 2 (by omega)
     simp only [IntKind.lo, IntKind.hi] at lo16 hi16
     refine Ld 29 A (2 * 1) (.tmp 24) (N3 (xs.getD 2 0)) [N3 (xs.getD 2 0)] at16 ?_
     refine Ra 1 (Qo B55 7458 7) 0 [] [(24, .v (elt A (2 * 1))), (25, I3 (xs.getD 2 0)), (26, I6 (IntKind.i64.wrap (xs.getD 2 0)))] ?_
     refine Kn 26 .i64 (xs.getD 2 0) rfl (wi64 (by omega) (by omega)) ?_
     refine Rb 11 (Qc B55 3731) 1 [] [(26, I6 (xs.getD 2 0)), (27, .own 3 2), (30, VB (k1 == 174))] [] [(3, ⟨70, [I6 (xs.getD 0 0), I6 (xs.getD 1 0), I6 (xs.getD 2 0)]⟩)] [] ?_
     refine X.isFalse 30 rfl (by simp; omega) ?_
     refine Rn 9 (.ex .normal) [.loop J12, .blk 0, Qs B55 15] ⟨41, [(1, .own 1 0), (2, .own 2 0), (3, .own 3 0), (4, I6 3), (6, I6 2), (7, .own 1 1), (8, VL A xs.length ca), (9, I6 (xs.length : Int)), (10, VB (decide (2 < (xs.length : Int)))), (11, VB true), (12, I6 2), (13, VB true), (14, VB true), (15, I6 2), (16, I6 3), (17, .own 1 0), (18, I6 k1), (19, VB true), (20, I6 2), (21, .own 1 1), (22, VL A xs.length ca), (23, I6 2), (24, .v (elt A (2 * 1))), (25, I3 (xs.getD 2 0)), (26, I6 (xs.getD 2 0)), (27, .own 3 2), (28, .own 1 0), (29, I6 k1), (30, VB false)], [(1, ⟨65, [I6 k1, VL A xs.length ca, VT s1]⟩), (2, ⟨70, [I6 0, I6 0, I6 0]⟩), (3, ⟨70, [I6 (xs.getD 0 0), I6 (xs.getD 1 0), I6 (xs.getD 2 0)]⟩)]⟩ ?_
     refine X.again (hJ12 _ _ _ ?_)
     refine RX.succ fun J17 hJ17 => ?_
     refine Rn 9 (Qo B55 464 6) [Qs B55 465, Qs B55 233, .loop J17, .blk 0, Qs B55 15] ⟨41, [(1, .own 1 0), (2, .own 2 0), (3, .own 3 0), (4, I6 3), (6, I6 3), (7, .own 1 1), (8, VL A xs.length ca), (9, I6 (xs.length : Int)), (10, VB (decide (3 < (xs.length : Int)))), (11, VB (decide (3 < (xs.length : Int)))), (12, I6 2), (13, VB true), (14, VB true), (15, I6 2), (16, I6 3), (17, .own 1 0), (18, I6 k1), (19, VB true), (20, I6 2), (21, .own 1 1), (22, VL A xs.length ca), (23, I6 2), (24, .v (elt A (2 * 1))), (25, I3 (xs.getD 2 0)), (26, I6 (xs.getD 2 0)), (27, .own 3 2), (28, .own 1 0), (29, I6 k1), (30, VB false)], [(1, ⟨65, [I6 k1, VL A xs.length ca, VT s1]⟩), (2, ⟨70, [I6 0, I6 0, I6 0]⟩), (3, ⟨70, [I6 (xs.getD 0 0), I6 (xs.getD 1 0), I6 (xs.getD 2 0)]⟩)]⟩ ?_
     refine Sd 11 rfl ?_ ?_ <;> intro h18
     ·
      refine Rn 18 (.ex .ret) [] ⟨41, [(2, .own 2 0)], [(2, ⟨70, [I6 (xs.getD 0 0), I6 (xs.getD 1 0), I6 (xs.getD 2 0)]⟩)]⟩ ?_
      refine Dg (.inl rfl) [.agg #[N6 (xs.getD 0 0), N6 (xs.getD 1 0), N6 (xs.getD 2 0)]] [] rfl (Ge.refl _ _) ?_
      have e0_ : (xs.getD 0 0 : Int) = ct k1 xs 0 := by
       unfold ct cn
       (repeat' split) <;> first | rfl | omega
      have e1_ : (xs.getD 1 0 : Int) = ct k1 xs 1 := by
       unfold ct cn
       (repeat' split) <;> first | rfl | omega
      have e2_ : (xs.getD 2 0 : Int) = ct k1 xs 2 := by
       unfold ct cn
       (repeat' split) <;> first | rfl | omega
      exact ⟨by rw [← e0_, ← e1_, ← e2_]; rfl, rfl⟩
     ·
      refine Rn 18 (.ex .ret) [] ⟨41, [(2, .own 2 0)], [(2, ⟨70, [I6 (xs.getD 0 0), I6 (xs.getD 1 0), I6 (xs.getD 2 0)]⟩)]⟩ ?_
      refine Dg (.inl rfl) [.agg #[N6 (xs.getD 0 0), N6 (xs.getD 1 0), N6 (xs.getD 2 0)]] [] rfl (Ge.refl _ _) ?_
      have e0_ : (xs.getD 0 0 : Int) = ct k1 xs 0 := by
       unfold ct cn
       (repeat' split) <;> first | rfl | omega
      have e1_ : (xs.getD 1 0 : Int) = ct k1 xs 1 := by
       unfold ct cn
       (repeat' split) <;> first | rfl | omega
      have e2_ : (xs.getD 2 0 : Int) = ct k1 xs 2 := by
       unfold ct cn
       (repeat' split) <;> first | rfl | omega
      exact ⟨by rw [← e0_, ← e1_, ← e2_]; rfl, rfl⟩
    ·
     refine Rn 18 (.ex .ret) [] ⟨41, [(2, .own 2 0)], [(2, ⟨70, [I6 (xs.getD 0 0), I6 (xs.getD 1 0), I6 (-1)]⟩)]⟩ ?_
     refine Dg (.inl rfl) [.agg #[N6 (xs.getD 0 0), N6 (xs.getD 1 0), N6 (-1)]] [] rfl (Ge.refl _ _) ?_
     have e0_ : (xs.getD 0 0 : Int) = ct k1 xs 0 := by
      unfold ct cn
      (repeat' split) <;> first | rfl | omega
     have e1_ : (xs.getD 1 0 : Int) = ct k1 xs 1 := by
      unfold ct cn
      (repeat' split) <;> first | rfl | omega
     have e2_ : ((-1) : Int) = ct k1 xs 2 := by
      unfold ct cn
      (repeat' split) <;> first | rfl | omega
     exact ⟨by rw [← e0_, ← e1_, ← e2_]; rfl, rfl⟩
   ·
    refine Rn 18 (.ex .ret) [] ⟨41, [(2, .own 2 0)], [(2, ⟨70, [I6 (xs.getD 0 0), I6 (-1), I6 (-1)]⟩)]⟩ ?_
    refine Dg (.inl rfl) [.agg #[N6 (xs.getD 0 0), N6 (-1), N6 (-1)]] [] rfl (Ge.refl _ _) ?_
    have e0_ : (xs.getD 0 0 : Int) = ct k1 xs 0 := by
     unfold ct cn
     (repeat' split) <;> first | rfl | omega
    have e1_ : ((-1) : Int) = ct k1 xs 1 := by
     unfold ct cn
     (repeat' split) <;> first | rfl | omega
    have e2_ : ((-1) : Int) = ct k1 xs 2 := by
     unfold ct cn
     (repeat' split) <;> first | rfl | omega
    exact ⟨by rw [← e0_, ← e1_, ← e2_]; rfl, rfl⟩
  ·
   refine Ra 10 (Qc B55 3731) 1 [] [(19, VB false), (28, .own 1 0), (29, I6 k1), (30, VB (k1 == 174))] ?_
   refine Se 30 rfl ?_ ?_ <;> intro h19
   ·
    refine Ra 7 (Qo B55 7462 5) 0 [] [(30, VB true), (31, I6 0), (32, I6 2), (33, .own 1 1), (34, VL A xs.length ca), (35, I6 0)] ?_
    refine Ix 63 29 1 A xs.length ca .i64 0 (.tmp 34) (.tmp 35) (by omega) (by omega) (fun _ _ => rowAt.so hx (by omega)) ?_
    obtain ⟨at22, lo22, hi22⟩ := At.int [] hx 0 (by omega)
    simp only [IntKind.lo, IntKind.hi] at lo22 hi22
    refine Ld 29 A (0 * 1) (.tmp 36) (N3 (xs.getD 0 0)) [N3 (xs.getD 0 0)] at22 ?_
    refine Ra 1 (Qo B55 7462 8) 0 [] [(36, .v (elt A (0 * 1))), (37, I3 (xs.getD 0 0)), (38, I6 (IntKind.i64.wrap (xs.getD 0 0)))] ?_
    refine Kn 38 .i64 (xs.getD 0 0) rfl (wi64 (by omega) (by omega)) ?_
    refine Rn 10 (.ex .normal) [.loop J1, .blk 0, Qs B55 15] ⟨41, [(1, .own 1 0), (2, .own 2 0), (3, .own 3 0), (4, I6 1), (6, I6 0), (7, .own 1 1), (8, VL A xs.length ca), (9, I6 (xs.length : Int)), (10, VB (decide (0 < (xs.length : Int)))), (11, VB true), (12, I6 0), (13, VB true), (14, VB true), (15, I6 0), (16, I6 1), (17, .own 1 0), (18, I6 k1), (19, VB false), (28, .own 1 0), (29, I6 k1), (30, VB true), (31, I6 0), (32, I6 2), (33, .own 1 1), (34, VL A xs.length ca), (35, I6 0), (36, .v (elt A (0 * 1))), (37, I3 (xs.getD 0 0)), (38, I6 (xs.getD 0 0)), (39, .own 3 2)], [(1, ⟨65, [I6 k1, VL A xs.length ca, VT s1]⟩), (2, ⟨70, [I6 0, I6 0, I6 0]⟩), (3, ⟨70, [I6 (-1), I6 (-1), I6 (xs.getD 0 0)]⟩)]⟩ ?_
    refine X.again (hJ1 _ _ _ ?_)
    refine RX.succ fun J23 hJ23 => ?_
    refine Rn 9 (Qo B55 464 6) [Qs B55 465, Qs B55 233, .loop J23, .blk 0, Qs B55 15] ⟨41, [(1, .own 1 0), (2, .own 2 0), (3, .own 3 0), (4, I6 1), (6, I6 1), (7, .own 1 1), (8, VL A xs.length ca), (9, I6 (xs.length : Int)), (10, VB (decide (1 < (xs.length : Int)))), (11, VB (decide (1 < (xs.length : Int)))), (12, I6 0), (13, VB true), (14, VB true), (15, I6 0), (16, I6 1), (17, .own 1 0), (18, I6 k1), (19, VB false), (28, .own 1 0), (29, I6 k1), (30, VB true), (31, I6 0), (32, I6 2), (33, .own 1 1), (34, VL A xs.length ca), (35, I6 0), (36, .v (elt A (0 * 1))), (37, I3 (xs.getD 0 0)), (38, I6 (xs.getD 0 0)), (39, .own 3 2)], [(1, ⟨65, [I6 k1, VL A xs.length ca, VT s1]⟩), (2, ⟨70, [I6 0, I6 0, I6 0]⟩), (3, ⟨70, [I6 (-1), I6 (-1), I6 (xs.getD 0 0)]⟩)]⟩ ?_
    refine Sd 11 rfl ?_ ?_ <;> intro h24
    ·
     refine Ra 18 (Qc B55 3729) 2 [Qs B55 1865, .blk 1, Qs B55 467] [(11, VB true), (12, I6 1), (19, VB (k1 == 172))] ?_
     refine X.isFalse 19 rfl (by simp; omega) ?_
     refine Ra 10 (Qc B55 3731) 1 [] [(19, VB false), (30, VB (k1 == 174))] ?_
     refine X.isTrue 30 rfl (by simpa using (show k1 = 174 by assumption)) ?_
     refine Ra 7 (Qo B55 7462 5) 0 [] [(30, VB true), (31, I6 1), (32, I6 1), (35, I6 1)] ?_
     refine Ix 63 29 1 A xs.length ca .i64 1 (.tmp 34) (.tmp 35) (by omega) (by omega) (fun _ _ => rowAt.so hx (by omega)) ?_
     obtain ⟨at27, lo27, hi27⟩ := At.int [] hx 1 (by omega)
     simp only [IntKind.lo, IntKind.hi] at lo27 hi27
     refine Ld 29 A (1 * 1) (.tmp 36) (N3 (xs.getD 1 0)) [N3 (xs.getD 1 0)] at27 ?_
     refine Ra 1 (Qo B55 7462 8) 0 [] [(36, .v (elt A (1 * 1))), (37, I3 (xs.getD 1 0)), (38, I6 (IntKind.i64.wrap (xs.getD 1 0)))] ?_
     refine Kn 38 .i64 (xs.getD 1 0) rfl (wi64 (by omega) (by omega)) ?_
     refine Rn 10 (.ex .normal) [.loop J23, .blk 0, Qs B55 15] ⟨41, [(1, .own 1 0), (2, .own 2 0), (3, .own 3 0), (4, I6 2), (6, I6 1), (7, .own 1 1), (8, VL A xs.length ca), (9, I6 (xs.length : Int)), (10, VB (decide (1 < (xs.length : Int)))), (11, VB true), (12, I6 1), (13, VB true), (14, VB true), (15, I6 1), (16, I6 2), (17, .own 1 0), (18, I6 k1), (19, VB false), (28, .own 1 0), (29, I6 k1), (30, VB true), (31, I6 1), (32, I6 1), (33, .own 1 1), (34, VL A xs.length ca), (35, I6 1), (36, .v (elt A (1 * 1))), (37, I3 (xs.getD 1 0)), (38, I6 (xs.getD 1 0)), (39, .own 3 1)], [(1, ⟨65, [I6 k1, VL A xs.length ca, VT s1]⟩), (2, ⟨70, [I6 0, I6 0, I6 0]⟩), (3, ⟨70, [I6 (-1), I6 (xs.getD 1 0), I6 (xs.getD 0 0)]⟩)]⟩ ?_
     refine X.again (hJ23 _ _ _ ?_)
     refine RX.succ fun J28 hJ28 => ?_
     refine Rn 9 (Qo B55 464 6) [Qs B55 465, Qs B55 233, .loop J28, .blk 0, Qs B55 15] ⟨41, [(1, .own 1 0), (2, .own 2 0), (3, .own 3 0), (4, I6 2), (6, I6 2), (7, .own 1 1), (8, VL A xs.length ca), (9, I6 (xs.length : Int)), (10, VB (decide (2 < (xs.length : Int)))), (11, VB (decide (2 < (xs.length : Int)))), (12, I6 1), (13, VB true), (14, VB true), (15, I6 1), (16, I6 2), (17, .own 1 0), (18, I6 k1), (19, VB false), (28, .own 1 0), (29, I6 k1), (30, VB true), (31, I6 1), (32, I6 1), (33, .own 1 1), (34, VL A xs.length ca), (35, I6 1), (36, .v (elt A (1 * 1))), (37, I3 (xs.getD 1 0)), (38, I6 (xs.getD 1 0)), (39, .own 3 1)], [(1, ⟨65, [I6 k1, VL A xs.length ca, VT s1]⟩), (2, ⟨70, [I6 0, I6 0, I6 0]⟩), (3, ⟨70, [I6 (-1), I6 (xs.getD 1 0), I6 (xs.getD 0 0)]⟩)]⟩ ?_
     refine Sd 11 rfl ?_ ?_ <;> intro h29
     ·
      refine Ra 18 (Qc B55 3729) 2 [Qs B55 1865, .blk 1, Qs B55 467] [(11, VB true), (12, I6 2), (19, VB (k1 == 172))] ?_
      refine X.isFalse 19 rfl (by simp; omega) ?_
      refine Ra 10 (Qc B55 3731) 1 [] [(19, VB false), (30, VB (k1 == 174))] ?_
      refine X.isTrue 30 rfl (by simpa using (show k1 = 174 by assumption)) ?_
      refine Ra 7 (Qo B55 7462 5) 0 [] [(30, VB true), (31, I6 2), (32, I6 0), (35, I6 2)] ?_
      refine Ix 63 29 1 A xs.length ca .i64 2 (.tmp 34) (.tmp 35) (by omega) (by omega) (fun _ _ => rowAt.so hx (by omega)) ?_
      obtain ⟨at32, lo32, hi32⟩ := At.int [] hx 2 (by omega)
      simp only [IntKind.lo, IntKind.hi] at lo32 hi32
      refine Ld 29 A (2 * 1) (.tmp 36) (N3 (xs.getD 2 0)) [N3 (xs.getD 2 0)] at32 ?_
      refine Ra 1 (Qo B55 7462 8) 0 [] [(36, .v (elt A (2 * 1))), (37, I3 (xs.getD 2 0)), (38, I6 (IntKind.i64.wrap (xs.getD 2 0)))] ?_
      refine Kn 38 .i64 (xs.getD 2 0) rfl (wi64 (by omega) (by omega)) ?_
      refine Rn 10 (.ex .normal) [.loop J28, .blk 0, Qs B55 15] ⟨41, [(1, .own 1 0), (2, .own 2 0), (3, .own 3 0), (4, I6 3), (6, I6 2), (7, .own 1 1), (8, VL A xs.length ca), (9, I6 (xs.length : Int)), (10, VB (decide (2 < (xs.length : Int)))), (11, VB true), (12, I6 2), (13, VB true), (14, VB true), (15, I6 2), (16, I6 3), (17, .own 1 0), (18, I6 k1), (19, VB false), (28, .own 1 0), (29, I6 k1), (30, VB true), (31, I6 2), (32, I6 0), (33, .own 1 1), (34, VL A xs.length ca), (35, I6 2), (36, .v (elt A (2 * 1))), (37, I3 (xs.getD 2 0)), (38, I6 (xs.getD 2 0)), (39, .own 3 0)], [(1, ⟨65, [I6 k1, VL A xs.length ca, VT s1]⟩), (2, ⟨70, [I6 0, I6 0, I6 0]⟩), (3, ⟨70, [I6 (xs.getD 2 0), I6 (xs.getD 1 0), I6 (xs.getD 0 0)]⟩)]⟩ ?_
      refine X.again (hJ28 _ _ _ ?_)
      refine RX.succ fun J33 hJ33 => ?_
      refine Rn 9 (Qo B55 464 6) [Qs B55 465, Qs B55 233, .loop J33, .blk 0, Qs B55 15] ⟨41, [(1, .own 1 0), (2, .own 2 0), (3, .own 3 0), (4, I6 3), (6, I6 3), (7, .own 1 1), (8, VL A xs.length ca), (9, I6 (xs.length : Int)), (10, VB (decide (3 < (xs.length : Int)))), (11, VB (decide (3 < (xs.length : Int)))), (12, I6 2), (13, VB true), (14, VB true), (15, I6 2), (16, I6 3), (17, .own 1 0), (18, I6 k1), (19, VB false), (28, .own 1 0), (29, I6 k1), (30, VB true), (31, I6 2), (32, I6 0), (33, .own 1 1), (34, VL A xs.length ca), (35, I6 2), (36, .v (elt A (2 * 1))), (37, I3 (xs.getD 2 0)), (38, I6 (xs.getD 2 0)), (39, .own 3 0)], [(1, ⟨65, [I6 k1, VL A xs.length ca, VT s1]⟩), (2, ⟨70, [I6 0, I6 0, I6 0]⟩), (3, ⟨70, [I6 (xs.getD 2 0), I6 (xs.getD 1 0), I6 (xs.getD 0 0)]⟩)]⟩ ?_
      refine Sd 11 rfl ?_ ?_ <;> intro h34
      ·
       refine Rn 18 (.ex .ret) [] ⟨41, [(2, .own 2 0)], [(2, ⟨70, [I6 (xs.getD 2 0), I6 (xs.getD 1 0), I6 (xs.getD 0 0)]⟩)]⟩ ?_
       refine Dg (.inl rfl) [.agg #[N6 (xs.getD 2 0), N6 (xs.getD 1 0), N6 (xs.getD 0 0)]] [] rfl (Ge.refl _ _) ?_
       have e0_ : (xs.getD 2 0 : Int) = ct k1 xs 0 := by
        unfold ct cn
        (repeat' split) <;> first | rfl | omega
       have e1_ : (xs.getD 1 0 : Int) = ct k1 xs 1 := by
        unfold ct cn
        (repeat' split) <;> first | rfl | omega
       have e2_ : (xs.getD 0 0 : Int) = ct k1 xs 2 := by
        unfold ct cn
        (repeat' split) <;> first | rfl | omega
       exact ⟨by rw [← e0_, ← e1_, ← e2_]; rfl, rfl⟩
      ·
       refine Rn 18 (.ex .ret) [] ⟨41, [(2, .own 2 0)], [(2, ⟨70, [I6 (xs.getD 2 0), I6 (xs.getD 1 0), I6 (xs.getD 0 0)]⟩)]⟩ ?_
       refine Dg (.inl rfl) [.agg #[N6 (xs.getD 2 0), N6 (xs.getD 1 0), N6 (xs.getD 0 0)]] [] rfl (Ge.refl _ _) ?_
       have e0_ : (xs.getD 2 0 : Int) = ct k1 xs 0 := by
        unfold ct cn
        (repeat' split) <;> first | rfl | omega
       have e1_ : (xs.getD 1 0 : Int) = ct k1 xs 1 := by
        unfold ct cn
        (repeat' split) <;> first | rfl | omega
       have e2_ : (xs.getD 0 0 : Int) = ct k1 xs 2 := by
        unfold ct cn
        (repeat' split) <;> first | rfl | omega
       exact ⟨by rw [← e0_, ← e1_, ← e2_]; rfl, rfl⟩
     ·
      refine Rn 18 (.ex .ret) [] ⟨41, [(2, .own 2 0)], [(2, ⟨70, [I6 (-1), I6 (xs.getD 1 0), I6 (xs.getD 0 0)]⟩)]⟩ ?_
      refine Dg (.inl rfl) [.agg #[N6 (-1), N6 (xs.getD 1 0), N6 (xs.getD 0 0)]] [] rfl (Ge.refl _ _) ?_
      have e0_ : ((-1) : Int) = ct k1 xs 0 := by
       unfold ct cn
       (repeat' split) <;> first | rfl | omega
      have e1_ : (xs.getD 1 0 : Int) = ct k1 xs 1 := by
       unfold ct cn
       (repeat' split) <;> first | rfl | omega
      have e2_ : (xs.getD 0 0 : Int) = ct k1 xs 2 := by
       unfold ct cn
       (repeat' split) <;> first | rfl | omega
      exact ⟨by rw [← e0_, ← e1_, ← e2_]; rfl, rfl⟩
    ·
     refine Rn 18 (.ex .ret) [] ⟨41, [(2, .own 2 0)], [(2, ⟨70, [I6 (-1), I6 (-1), I6 (xs.getD 0 0)]⟩)]⟩ ?_
     refine Dg (.inl rfl) [.agg #[N6 (-1), N6 (-1), N6 (xs.getD 0 0)]] [] rfl (Ge.refl _ _) ?_
     have e0_ : ((-1) : Int) = ct k1 xs 0 := by
      unfold ct cn
      (repeat' split) <;> first | rfl | omega
     have e1_ : ((-1) : Int) = ct k1 xs 1 := by
      unfold ct cn
      (repeat' split) <;> first | rfl | omega
     have e2_ : (xs.getD 0 0 : Int) = ct k1 xs 2 := by
      unfold ct cn
      (repeat' split) <;> first | rfl | omega
     exact ⟨by rw [← e0_, ← e1_, ← e2_]; rfl, rfl⟩
   ·
    refine Rn 9 (.ex .normal) [.loop J1, .blk 0, Qs B55 15] ⟨41, [(1, .own 1 0), (2, .own 2 0), (3, .own 3 0), (4, I6 1), (6, I6 0), (7, .own 1 1), (8, VL A xs.length ca), (9, I6 (xs.length : Int)), (10, VB (decide (0 < (xs.length : Int)))), (11, VB true), (12, I6 0), (13, VB true), (14, VB true), (15, I6 0), (16, I6 1), (17, .own 1 0), (18, I6 k1), (19, VB false), (28, .own 1 0), (29, I6 k1), (30, VB false)], [(1, ⟨65, [I6 k1, VL A xs.length ca, VT s1]⟩), (2, ⟨70, [I6 0, I6 0, I6 0]⟩), (3, ⟨70, [I6 (-1), I6 (-1), I6 (-1)]⟩)]⟩ ?_
    refine X.again (hJ1 _ _ _ ?_)
    refine RX.succ fun J35 hJ35 => ?_
    refine Rn 9 (Qo B55 464 6) [Qs B55 465, Qs B55 233, .loop J35, .blk 0, Qs B55 15] ⟨41, [(1, .own 1 0), (2, .own 2 0), (3, .own 3 0), (4, I6 1), (6, I6 1), (7, .own 1 1), (8, VL A xs.length ca), (9, I6 (xs.length : Int)), (10, VB (decide (1 < (xs.length : Int)))), (11, VB (decide (1 < (xs.length : Int)))), (12, I6 0), (13, VB true), (14, VB true), (15, I6 0), (16, I6 1), (17, .own 1 0), (18, I6 k1), (19, VB false), (28, .own 1 0), (29, I6 k1), (30, VB false)], [(1, ⟨65, [I6 k1, VL A xs.length ca, VT s1]⟩), (2, ⟨70, [I6 0, I6 0, I6 0]⟩), (3, ⟨70, [I6 (-1), I6 (-1), I6 (-1)]⟩)]⟩ ?_
    refine Sd 11 rfl ?_ ?_ <;> intro h36
    ·
     refine Ra 18 (Qc B55 3729) 2 [Qs B55 1865, .blk 1, Qs B55 467] [(11, VB true), (12, I6 1), (19, VB (k1 == 172))] ?_
     refine X.isFalse 19 rfl (by simp; omega) ?_
     refine Ra 10 (Qc B55 3731) 1 [] [(19, VB false), (30, VB (k1 == 174))] ?_
     refine X.isFalse 30 rfl (by simp; omega) ?_
     refine Rn 9 (.ex .normal) [.loop J35, .blk 0, Qs B55 15] ⟨41, [(1, .own 1 0), (2, .own 2 0), (3, .own 3 0), (4, I6 2), (6, I6 1), (7, .own 1 1), (8, VL A xs.length ca), (9, I6 (xs.length : Int)), (10, VB (decide (1 < (xs.length : Int)))), (11, VB true), (12, I6 1), (13, VB true), (14, VB true), (15, I6 1), (16, I6 2), (17, .own 1 0), (18, I6 k1), (19, VB false), (28, .own 1 0), (29, I6 k1), (30, VB false)], [(1, ⟨65, [I6 k1, VL A xs.length ca, VT s1]⟩), (2, ⟨70, [I6 0, I6 0, I6 0]⟩), (3, ⟨70, [I6 (-1), I6 (-1), I6 (-1)]⟩)]⟩ ?_
     refine X.again (hJ35 _ _ _ ?_)
     refine RX.succ fun J37 hJ37 => ?_
     refine Rn 9 (Qo B55 464 6) [Qs B55 465, Qs B55 233, .loop J37, .blk 0, Qs B55 15] ⟨41, [(1, .own 1 0), (2, .own 2 0), (3, .own 3 0), (4, I6 2), (6, I6 2), (7, .own 1 1), (8, VL A xs.length ca), (9, I6 (xs.length : Int)), (10, VB (decide (2 < (xs.length : Int)))), (11, VB (decide (2 < (xs.length : Int)))), (12, I6 1), (13, VB true), (14, VB true), (15, I6 1), (16, I6 2), (17, .own 1 0), (18, I6 k1), (19, VB false), (28, .own 1 0), (29, I6 k1), (30, VB false)], [(1, ⟨65, [I6 k1, VL A xs.length ca, VT s1]⟩), (2, ⟨70, [I6 0, I6 0, I6 0]⟩), (3, ⟨70, [I6 (-1), I6 (-1), I6 (-1)]⟩)]⟩ ?_
     refine Sd 11 rfl ?_ ?_ <;> intro h38
     ·
      refine Ra 18 (Qc B55 3729) 2 [Qs B55 1865, .blk 1, Qs B55 467] [(11, VB true), (12, I6 2), (19, VB (k1 == 172))] ?_
      refine X.isFalse 19 rfl (by simp; omega) ?_
      refine Ra 10 (Qc B55 3731) 1 [] [(19, VB false), (30, VB (k1 == 174))] ?_
      refine X.isFalse 30 rfl (by simp; omega) ?_
      refine Rn 9 (.ex .normal) [.loop J37, .blk 0, Qs B55 15] ⟨41, [(1, .own 1 0), (2, .own 2 0), (3, .own 3 0), (4, I6 3), (6, I6 2), (7, .own 1 1), (8, VL A xs.length ca), (9, I6 (xs.length : Int)), (10, VB (decide (2 < (xs.length : Int)))), (11, VB true), (12, I6 2), (13, VB true), (14, VB true), (15, I6 2), (16, I6 3), (17, .own 1 0), (18, I6 k1), (19, VB false), (28, .own 1 0), (29, I6 k1), (30, VB false)], [(1, ⟨65, [I6 k1, VL A xs.length ca, VT s1]⟩), (2, ⟨70, [I6 0, I6 0, I6 0]⟩), (3, ⟨70, [I6 (-1), I6 (-1), I6 (-1)]⟩)]⟩ ?_
      refine X.again (hJ37 _ _ _ ?_)
      refine RX.succ fun J39 hJ39 => ?_
      refine Rn 9 (Qo B55 464 6) [Qs B55 465, Qs B55 233, .loop J39, .blk 0, Qs B55 15] ⟨41, [(1, .own 1 0), (2, .own 2 0), (3, .own 3 0), (4, I6 3), (6, I6 3), (7, .own 1 1), (8, VL A xs.length ca), (9, I6 (xs.length : Int)), (10, VB (decide (3 < (xs.length : Int)))), (11, VB (decide (3 < (xs.length : Int)))), (12, I6 2), (13, VB true), (14, VB true), (15, I6 2), (16, I6 3), (17, .own 1 0), (18, I6 k1), (19, VB false), (28, .own 1 0), (29, I6 k1), (30, VB false)], [(1, ⟨65, [I6 k1, VL A xs.length ca, VT s1]⟩), (2, ⟨70, [I6 0, I6 0, I6 0]⟩), (3, ⟨70, [I6 (-1), I6 (-1), I6 (-1)]⟩)]⟩ ?_
      refine Sd 11 rfl ?_ ?_ <;> intro h40
      ·
       refine Rn 18 (.ex .ret) [] ⟨41, [(2, .own 2 0)], [(2, ⟨70, [I6 (-1), I6 (-1), I6 (-1)]⟩)]⟩ ?_
       refine Dg (.inl rfl) [.agg #[N6 (-1), N6 (-1), N6 (-1)]] [] rfl (Ge.refl _ _) ?_
       have e0_ : ((-1) : Int) = ct k1 xs 0 := by
        unfold ct cn
        (repeat' split) <;> first | rfl | omega
       have e1_ : ((-1) : Int) = ct k1 xs 1 := by
        unfold ct cn
        (repeat' split) <;> first | rfl | omega
       have e2_ : ((-1) : Int) = ct k1 xs 2 := by
        unfold ct cn
        (repeat' split) <;> first | rfl | omega
       exact ⟨by rw [← e0_, ← e1_, ← e2_]; rfl, rfl⟩
      ·
       refine Rn 18 (.ex .ret) [] ⟨41, [(2, .own 2 0)], [(2, ⟨70, [I6 (-1), I6 (-1), I6 (-1)]⟩)]⟩ ?_
       refine Dg (.inl rfl) [.agg #[N6 (-1), N6 (-1), N6 (-1)]] [] rfl (Ge.refl _ _) ?_
       have e0_ : ((-1) : Int) = ct k1 xs 0 := by
        unfold ct cn
        (repeat' split) <;> first | rfl | omega
       have e1_ : ((-1) : Int) = ct k1 xs 1 := by
        unfold ct cn
        (repeat' split) <;> first | rfl | omega
       have e2_ : ((-1) : Int) = ct k1 xs 2 := by
        unfold ct cn
        (repeat' split) <;> first | rfl | omega
       exact ⟨by rw [← e0_, ← e1_, ← e2_]; rfl, rfl⟩
     ·
      refine Rn 18 (.ex .ret) [] ⟨41, [(2, .own 2 0)], [(2, ⟨70, [I6 (-1), I6 (-1), I6 (-1)]⟩)]⟩ ?_
      refine Dg (.inl rfl) [.agg #[N6 (-1), N6 (-1), N6 (-1)]] [] rfl (Ge.refl _ _) ?_
      have e0_ : ((-1) : Int) = ct k1 xs 0 := by
       unfold ct cn
       (repeat' split) <;> first | rfl | omega
      have e1_ : ((-1) : Int) = ct k1 xs 1 := by
       unfold ct cn
       (repeat' split) <;> first | rfl | omega
      have e2_ : ((-1) : Int) = ct k1 xs 2 := by
       unfold ct cn
       (repeat' split) <;> first | rfl | omega
      exact ⟨by rw [← e0_, ← e1_, ← e2_]; rfl, rfl⟩
    ·
     refine Rn 18 (.ex .ret) [] ⟨41, [(2, .own 2 0)], [(2, ⟨70, [I6 (-1), I6 (-1), I6 (-1)]⟩)]⟩ ?_
     refine Dg (.inl rfl) [.agg #[N6 (-1), N6 (-1), N6 (-1)]] [] rfl (Ge.refl _ _) ?_
     have e0_ : ((-1) : Int) = ct k1 xs 0 := by
      unfold ct cn
      (repeat' split) <;> first | rfl | omega
     have e1_ : ((-1) : Int) = ct k1 xs 1 := by
      unfold ct cn
      (repeat' split) <;> first | rfl | omega
     have e2_ : ((-1) : Int) = ct k1 xs 2 := by
      unfold ct cn
      (repeat' split) <;> first | rfl | omega
     exact ⟨by rw [← e0_, ← e1_, ← e2_]; rfl, rfl⟩
 ·
  refine Rn 18 (.ex .ret) [] ⟨41, [(2, .own 2 0)], [(2, ⟨70, [I6 (-1), I6 (-1), I6 (-1)]⟩)]⟩ ?_
  refine Dg (.inl rfl) [.agg #[N6 (-1), N6 (-1), N6 (-1)]] [] rfl (Ge.refl _ _) ?_
  have e0_ : ((-1) : Int) = ct k1 xs 0 := by
   unfold ct cn
   (repeat' split) <;> first | rfl | omega
  have e1_ : ((-1) : Int) = ct k1 xs 1 := by
   unfold ct cn
   (repeat' split) <;> first | rfl | omega
  have e2_ : ((-1) : Int) = ct k1 xs 2 := by
   unfold ct cn
   (repeat' split) <;> first | rfl | omega
  exact ⟨by rw [← e0_, ← e1_, ← e2_]; rfl, rfl⟩
set_option maxHeartbeats 1000000 in
theorem rAcc_ok (k x y z m : Int) (hx : (-9223372036854775808 ≤ x ∧ x ≤ 9223372036854775807)) (hy : (-9223372036854775808 ≤ y ∧ y ≤ 9223372036854775807)) (hz : (-9223372036854775808 ≤ z ∧ z ≤ 9223372036854775807)) (hm : (-9223372036854775808 ≤ m ∧ m ≤ 9223372036854775807)) (G : Mem) : CallsG Try.prog 57 [.int .i64 k, .int .i64 x, .int .i64 y, .int .i64 z, .int .i64 m] G (fun _ v rows => ∃ A' c', v = .agg #[.int .i64 (ak k), .slice A' (al k x y z m).length c', .string ⟨#[]⟩] ∧ (al k x y z m).length ≤ c' ∧ rows = [⟨29, 1, .slice A' (al k x y z m).length c', (al k x y z m).length, (al k x y z m).map (Value.int .u32)⟩]) := by
 refine CallsG.enter Try.func57 rfl rfl ?_
 intro w
 refine Rn 8 (Qo B57 6 1) [Qs B57 7] ⟨51, [(0, I6 k), (1, I6 x), (2, I6 y), (3, I6 z), (4, I6 m), (10, .own 10 0), (14, I6 x)], [(10, ⟨65, [I6 0, VL none 0 0, VT ByteArray.empty]⟩)]⟩ ?_
 refine Cg 117 [N6 x] 0 (low_ok x (by omega) _) ?_
 rintro v1 G1 rows1 hG1 ⟨rfl, rfl⟩
 refine Ra 1 (Qo B57 6 3) 0 [] [(15, I3 (x % 16777216)), (16, I6 y)] ?_
 refine Cg 117 [N6 y] 0 (low_ok y (by omega) _) ?_
 rintro v2 G2 rows2 hG2 ⟨rfl, rfl⟩
 refine Ra 1 (Qo B57 6 5) 0 [] [(17, I3 (y % 16777216)), (18, I6 z)] ?_
 refine Cg 117 [N6 z] 0 (low_ok z (by omega) _) ?_
 rintro v3 G3 rows3 hG3 ⟨rfl, rfl⟩
 refine Ra 0 (Qo B57 6 6) 0 [] [(19, I3 (z % 16777216))] ?_
 refine Lt 20 29 1 3 [N3 (x % 16777216), N3 (y % 16777216), N3 (z % 16777216)] ?_
 intro A4
 refine Rb 17 (Qc B57 61) 1 [Qs B57 31] [(11, VL A4 3 3), (12, .own 12 0), (23, VB (k == 174))] [] [(12, ⟨65, [I6 172, VL none 0 0, VT ByteArray.empty]⟩)] [] ?_
 refine Se 23 rfl ?_ ?_ <;> intro h5
 ·
  refine Ra 4 (Qo B57 244 1) 0 [Qs B57 245] [(24, I6 z)] ?_
  refine Cg 117 [N6 z] 0 (low_ok z (by omega) _) ?_
  rintro v6 G6 rows6 hG6 ⟨rfl, rfl⟩
  refine Ra 1 (Qo B57 244 3) 0 [] [(25, I3 (z % 16777216)), (26, I6 y)] ?_
  refine Cg 117 [N6 y] 0 (low_ok y (by omega) _) ?_
  rintro v7 G7 rows7 hG7 ⟨rfl, rfl⟩
  refine Ra 1 (Qo B57 244 5) 0 [] [(27, I3 (y % 16777216)), (28, I6 x)] ?_
  refine Cg 117 [N6 x] 0 (low_ok x (by omega) _) ?_
  rintro v8 G8 rows8 hG8 ⟨rfl, rfl⟩
  refine Ra 0 (Qo B57 244 6) 0 [] [(29, I3 (x % 16777216))] ?_
  refine Lt 30 29 1 3 [N3 (z % 16777216), N3 (y % 16777216), N3 (x % 16777216)] ?_
  intro A9
  refine Rb 15 (Qc B57 250) 2 [.blk 0, Qs B57 63] [(11, VL A9 3 3), (13, I6 0)] [] [(12, ⟨65, [I6 174, VL none 0 0, VT ByteArray.empty]⟩)] [] ?_
  refine X.rounds 5 ?_
  refine RX.succ fun J10 hJ10 => ?_
  refine Rn 7 (Qo B57 2000 4) [Qs B57 2001, Qs B57 1001, .loop J10, .blk 0, Qs B57 63] ⟨51, [(4, I6 m), (10, .own 10 0), (11, VL A9 3 3), (12, .own 12 0), (13, I6 0), (32, I6 0), (33, I6 m), (34, VB (decide (0 < m))), (35, VB (decide (0 < m)))], [(10, ⟨65, [I6 0, VL none 0 0, VT ByteArray.empty]⟩), (12, ⟨65, [I6 174, VL none 0 0, VT ByteArray.empty]⟩)]⟩ ?_
  refine Sd 35 rfl ?_ ?_ <;> intro h11
  ·
   refine Ra 10 (Qc B57 4004) 2 [.blk 1, Qs B57 2003] [(35, VB true), (36, I6 0), (37, VB true), (38, VB true)] ?_
   refine Oh 9 B57 4004 10 [⟨some 12, 12, 65, [I6 174, VL none 0 0, VT ByteArray.empty]⟩] [(30, RR 29 1 A9 3 3 [N3 (z % 16777216), N3 (y % 16777216), N3 (x % 16777216)])] [9] ⟨P1, trivial⟩ Mt (fun ρ0 => ?_)
   refine Tk 0 10 1 B57 4004 (.own 12 1) QOk.ctxG ?_
   refine Tk 1 10 3 B57 4004 (VL none 0 0) QOk.ctxG ?_
   refine Tk 2 10 7 B57 4004 (VL A9 3 3) QOk.ctxG ?_
   refine Tk 3 10 15 B57 4004 (I6 0) QOk.ctxG ?_
   have b13 : (0 : Int) ≤ 0 := by omega
   have b14 : 0 < ((3 : Nat) : Int) := by omega
   have at15 : At G8 [(30, ⟨29, 1, .slice A9 3 3, 3, [.int .u32 (z % 16777216), .int .u32 (y % 16777216), .int .u32 (x % 16777216)]⟩)] A9 (0 * 1) [.int .u32 (z % 16777216)] := (At.of_row (i := 30) (r := ⟨29, 1, .slice A9 3 3, 3, [.int .u32 (z % 16777216), .int .u32 (y % 16777216), .int .u32 (x % 16777216)]⟩) rfl rfl).part 0 1
   refine Dx 4 10 31 B57 4004 63 29 1 A9 3 3 .i64 0 (.tmp 43) (.tmp 44) QOk.ctxG b13 b14 (rowSome (i := 30) (q := (RR 29 1 A9 3 3 [N3 (z % 16777216), N3 (y % 16777216), N3 (x % 16777216)])) rfl rfl (Nat.succ_pos _)) ?_
   refine Dl 5 10 63 B57 4004 29 A9 (0 * 1) (.tmp 45) (N3 (z % 16777216)) [N3 (z % 16777216)] QOk.ctxG at15 ?_
   refine Do 6 10 127 B57 4004 ?_
   refine Lt 47 29 1 1 [N3 (z % 16777216)] ?_
   intro A16
   refine X.back ⟨⟨P1, trivial⟩, Le.refl _, by kernel_rfl, ?_⟩
   refine Do 7 10 255 B57 4004 ?_
   refine Ap 48 (RR 29 1 none 0 0 []) 63 4 (N3 0) (.tmp 42) (.tmp 47) 0 0 1 1 none A16 [N3 (z % 16777216)] (.inr ⟨rfl, rfl, rfl, rfl⟩) (by kernel_rfl) (Ar 47 rfl) (Br 47 rfl) (ones (by kernel_rfl)) (by decide) ?_
   intro A17 c17 hc17
   refine Tr [48, 47, 30] ?_
   refine X.back ⟨⟨P1, trivial⟩, Le.refl _, by kernel_rfl, ?_⟩
   refine Ts [8] 10 511 1 2 QOk.ctxG ?_
   refine XD.toE ?_
   refine En ⟨51, [(4, I6 m), (10, .own 10 0), (11, VL A9 3 3), (12, .own 12 0), (13, I6 0), (32, I6 0), (33, I6 m), (34, VB (decide (0 < m))), (35, VB true), (36, I6 0), (37, VB true), (38, VB true), (41, .own 12 1), (42, VL none 0 0), (43, VL A9 3 3), (44, I6 0), (45, .v (elt A9 (0 * 1))), (46, I3 (z % 16777216)), (47, VL A16 1 1), (48, VL A17 1 c17), (49, .own 12 1)], [(10, ⟨65, [I6 0, VL none 0 0, VT ByteArray.empty]⟩), (12, ⟨65, [I6 174, VL none 0 0, VT ByteArray.empty]⟩)]⟩ ?_
   refine Eo 9 10 1023 B57 4004 ?_
   refine X.simple (by kernel_rfl) ?_
   refine X.back ?_
   refine XE.done (by kernel_rfl) ?_
   refine Rn 7 (.ex .normal) [.loop J10, .blk 0, Qs B57 63] ⟨51, [(4, I6 m), (10, .own 10 0), (11, VL A9 3 3), (12, .own 12 0), (13, I6 1), (32, I6 0), (33, I6 m), (34, VB (decide (0 < m))), (35, VB true), (36, I6 0), (37, VB true), (38, VB true), (39, I6 0), (40, I6 1), (41, .own 12 1), (42, VL none 0 0), (43, VL A9 3 3), (44, I6 0), (45, .v (elt A9 (0 * 1))), (46, I3 (z % 16777216)), (47, VL A16 1 1), (48, VL A17 1 c17), (49, .own 12 1)], [(10, ⟨65, [I6 0, VL none 0 0, VT ByteArray.empty]⟩), (12, ⟨65, [I6 174, VL A17 1 c17, VT ByteArray.empty]⟩)]⟩ ?_
   refine X.again (hJ10 _ _ _ ?_)
   refine RX.succ fun J18 hJ18 => ?_
   refine Rn 7 (Qo B57 2000 4) [Qs B57 2001, Qs B57 1001, .loop J18, .blk 0, Qs B57 63] ⟨51, [(4, I6 m), (10, .own 10 0), (11, VL A9 3 3), (12, .own 12 0), (13, I6 1), (32, I6 1), (33, I6 m), (34, VB (decide (1 < m))), (35, VB (decide (1 < m))), (36, I6 0), (37, VB true), (38, VB true), (39, I6 0), (40, I6 1), (41, .own 12 1), (42, VL none 0 0), (43, VL A9 3 3), (44, I6 0), (45, .v (elt A9 (0 * 1))), (46, I3 (z % 16777216)), (47, VL A16 1 1), (48, VL A17 1 c17), (49, .own 12 1)], [(10, ⟨65, [I6 0, VL none 0 0, VT ByteArray.empty]⟩), (12, ⟨65, [I6 174, VL A17 1 c17, VT ByteArray.empty]⟩)]⟩ ?_
   refine Sd 35 rfl ?_ ?_ <;> intro h19
   ·
    refine Ra 10 (Qc B57 4004) 2 [.blk 1, Qs B57 2003] [(35, VB true), (36, I6 1)] ?_
    refine Oh 9 B57 4004 10 [⟨some 12, 12, 65, [I6 174, VL A17 1 c17, VT ByteArray.empty]⟩] [(30, RR 29 1 A9 3 3 [N3 (z % 16777216), N3 (y % 16777216), N3 (x % 16777216)])] [9] ⟨P1, trivial⟩ Mt (fun ρ0 => ?_)
    refine Tk 0 10 1 B57 4004 (.own 12 1) QOk.ctxG ?_
    refine Tk 1 10 3 B57 4004 (VL A17 1 c17) QOk.ctxG ?_
    refine Tk 2 10 7 B57 4004 (VL A9 3 3) QOk.ctxG ?_
    refine Tk 3 10 15 B57 4004 (I6 1) QOk.ctxG ?_
    have b21 : (0 : Int) ≤ 1 := by omega
    have b22 : 1 < ((3 : Nat) : Int) := by omega
    have at23 : At G8 [(30, ⟨29, 1, .slice A9 3 3, 3, [.int .u32 (z % 16777216), .int .u32 (y % 16777216), .int .u32 (x % 16777216)]⟩)] A9 (1 * 1) [.int .u32 (y % 16777216)] := (At.of_row (i := 30) (r := ⟨29, 1, .slice A9 3 3, 3, [.int .u32 (z % 16777216), .int .u32 (y % 16777216), .int .u32 (x % 16777216)]⟩) rfl rfl).part 1 1
    refine Dx 4 10 31 B57 4004 63 29 1 A9 3 3 .i64 1 (.tmp 43) (.tmp 44) QOk.ctxG b21 b22 (rowSome (i := 30) (q := (RR 29 1 A9 3 3 [N3 (z % 16777216), N3 (y % 16777216), N3 (x % 16777216)])) rfl rfl (Nat.succ_pos _)) ?_
    refine Dl 5 10 63 B57 4004 29 A9 (1 * 1) (.tmp 45) (N3 (y % 16777216)) [N3 (y % 16777216)] QOk.ctxG at23 ?_
    refine Do 6 10 127 B57 4004 ?_
    refine Lt 47 29 1 1 [N3 (y % 16777216)] ?_
    intro A24
    refine X.back ⟨⟨P1, trivial⟩, Le.refl _, by kernel_rfl, ?_⟩
    refine Do 7 10 255 B57 4004 ?_
    refine Ap 48 _ 63 4 (N3 0) (.tmp 42) (.tmp 47) 1 c17 1 1 A17 A24 [N3 (y % 16777216)] (.inl rfl) (by kernel_rfl) (Ar 47 rfl) (Br 47 rfl) (ones (by kernel_rfl)) (by decide) ?_
    intro A25 c25 hc25
    refine Tr [48, 47, 30] ?_
    refine X.back ⟨⟨P1, trivial⟩, Le.refl _, by kernel_rfl, ?_⟩
    refine Ts [8] 10 511 1 2 QOk.ctxG ?_
    refine XD.toE ?_
    refine En ⟨51, [(4, I6 m), (10, .own 10 0), (11, VL A9 3 3), (12, .own 12 0), (13, I6 1), (32, I6 1), (33, I6 m), (34, VB (decide (1 < m))), (35, VB true), (36, I6 1), (37, VB true), (38, VB true), (39, I6 0), (40, I6 1), (41, .own 12 1), (42, VL A17 1 c17), (43, VL A9 3 3), (44, I6 1), (45, .v (elt A9 (1 * 1))), (46, I3 (y % 16777216)), (47, VL A24 1 1), (48, VL A25 2 c25), (49, .own 12 1)], [(10, ⟨65, [I6 0, VL none 0 0, VT ByteArray.empty]⟩), (12, ⟨65, [I6 174, VL A17 1 c17, VT ByteArray.empty]⟩)]⟩ ?_
    refine Eo 9 10 1023 B57 4004 ?_
    refine X.simple (by kernel_rfl) ?_
    refine X.back ?_
    refine XE.done (by kernel_rfl) ?_
    refine Rn 7 (.ex .normal) [.loop J18, .blk 0, Qs B57 63] ⟨51, [(4, I6 m), (10, .own 10 0), (11, VL A9 3 3), (12, .own 12 0), (13, I6 2), (32, I6 1), (33, I6 m), (34, VB (decide (1 < m))), (35, VB true), (36, I6 1), (37, VB true), (38, VB true), (39, I6 1), (40, I6 2), (41, .own 12 1), (42, VL A17 1 c17), (43, VL A9 3 3), (44, I6 1), (45, .v (elt A9 (1 * 1))), (46, I3 (y % 16777216)), (47, VL A24 1 1), (48, VL A25 2 c25), (49, .own 12 1)], [(10, ⟨65, [I6 0, VL none 0 0, VT ByteArray.empty]⟩), (12, ⟨65, [I6 174, VL A25 2 c25, VT ByteArray.empty]⟩)]⟩ ?_
    refine X.again (hJ18 _ _ _ ?_)
    refine RX.succ fun J26 hJ26 => ?_
    refine Rn 7 (Qo B57 2000 4) [Qs B57 2001, Qs B57 1001, .loop J26, .blk 0, Qs B57 63] ⟨51, [(4, I6 m), (10, .own 10 0), (11, VL A9 3 3), (12, .own 12 0), (13, I6 2), (32, I6 2), (33, I6 m), (34, VB (decide (2 < m))), (35, VB (decide (2 < m))), (36, I6 1), (37, VB true), (38, VB true), (39, I6 1), (40, I6 2), (41, .own 12 1), (42, VL A17 1 c17), (43, VL A9 3 3), (44, I6 1), (45, .v (elt A9 (1 * 1))), (46, I3 (y % 16777216)), (47, VL A24 1 1), (48, VL A25 2 c25), (49, .own 12 1)], [(10, ⟨65, [I6 0, VL none 0 0, VT ByteArray.empty]⟩), (12, ⟨65, [I6 174, VL A25 2 c25, VT ByteArray.empty]⟩)]⟩ ?_
    refine Sd 35 rfl ?_ ?_ <;> intro h27
    ·
     refine Ra 10 (Qc B57 4004) 2 [.blk 1, Qs B57 2003] [(35, VB true), (36, I6 2)] ?_
     refine Oh 9 B57 4004 10 [⟨some 12, 12, 65, [I6 174, VL A25 2 c25, VT ByteArray.empty]⟩] [(30, RR 29 1 A9 3 3 [N3 (z % 16777216), N3 (y % 16777216), N3 (x % 16777216)])] [9] ⟨P1, trivial⟩ Mt (fun ρ0 => ?_)
     refine Tk 0 10 1 B57 4004 (.own 12 1) QOk.ctxG ?_
     refine Tk 1 10 3 B57 4004 (VL A25 2 c25) QOk.ctxG ?_
     refine Tk 2 10 7 B57 4004 (VL A9 3 3) QOk.ctxG ?_
     refine Tk 3 10 15 B57 4004 (I6 2) QOk.ctxG ?_
     have b29 : (0 : Int) ≤ 2 := by omega
     have b30 : 2 < ((3 : Nat) : Int) := by omega
     have at31 : At G8 [(30, ⟨29, 1, .slice A9 3 3, 3, [.int .u32 (z % 16777216), .int .u32 (y % 16777216), .int .u32 (x % 16777216)]⟩)] A9 (2 * 1) [.int .u32 (x % 16777216)] := (At.of_row (i := 30) (r := ⟨29, 1, .slice A9 3 3, 3, [.int .u32 (z % 16777216), .int .u32 (y % 16777216), .int .u32 (x % 16777216)]⟩) rfl rfl).part 2 1
     refine Dx 4 10 31 B57 4004 63 29 1 A9 3 3 .i64 2 (.tmp 43) (.tmp 44) QOk.ctxG b29 b30 (rowSome (i := 30) (q := (RR 29 1 A9 3 3 [N3 (z % 16777216), N3 (y % 16777216), N3 (x % 16777216)])) rfl rfl (Nat.succ_pos _)) ?_
     refine Dl 5 10 63 B57 4004 29 A9 (2 * 1) (.tmp 45) (N3 (x % 16777216)) [N3 (x % 16777216)] QOk.ctxG at31 ?_
     refine Do 6 10 127 B57 4004 ?_
     refine Lt 47 29 1 1 [N3 (x % 16777216)] ?_
     intro A32
     refine X.back ⟨⟨P1, trivial⟩, Le.refl _, by kernel_rfl, ?_⟩
     refine Do 7 10 255 B57 4004 ?_
     refine Ap 48 _ 63 4 (N3 0) (.tmp 42) (.tmp 47) 2 c25 1 1 A25 A32 [N3 (x % 16777216)] (.inl rfl) (by kernel_rfl) (Ar 47 rfl) (Br 47 rfl) (ones (by kernel_rfl)) (by decide) ?_
     intro A33 c33 hc33
     refine Tr [48, 47, 30] ?_
     refine X.back ⟨⟨P1, trivial⟩, Le.refl _, by kernel_rfl, ?_⟩
     refine Ts [8] 10 511 1 2 QOk.ctxG ?_
     refine XD.toE ?_
     refine En ⟨51, [(4, I6 m), (10, .own 10 0), (11, VL A9 3 3), (12, .own 12 0), (13, I6 2), (32, I6 2), (33, I6 m), (34, VB (decide (2 < m))), (35, VB true), (36, I6 2), (37, VB true), (38, VB true), (39, I6 1), (40, I6 2), (41, .own 12 1), (42, VL A25 2 c25), (43, VL A9 3 3), (44, I6 2), (45, .v (elt A9 (2 * 1))), (46, I3 (x % 16777216)), (47, VL A32 1 1), (48, VL A33 3 c33), (49, .own 12 1)], [(10, ⟨65, [I6 0, VL none 0 0, VT ByteArray.empty]⟩), (12, ⟨65, [I6 174, VL A25 2 c25, VT ByteArray.empty]⟩)]⟩ ?_
     refine Eo 9 10 1023 B57 4004 ?_
     refine X.simple (by kernel_rfl) ?_
     refine X.back ?_
     refine XE.done (by kernel_rfl) ?_
     refine Rn 7 (.ex .normal) [.loop J26, .blk 0, Qs B57 63] ⟨51, [(4, I6 m), (10, .own 10 0), (11, VL A9 3 3), (12, .own 12 0), (13, I6 3), (32, I6 2), (33, I6 m), (34, VB (decide (2 < m))), (35, VB true), (36, I6 2), (37, VB true), (38, VB true), (39, I6 2), (40, I6 3), (41, .own 12 1), (42, VL A25 2 c25), (43, VL A9 3 3), (44, I6 2), (45, .v (elt A9 (2 * 1))), (46, I3 (x % 16777216)), (47, VL A32 1 1), (48, VL A33 3 c33), (49, .own 12 1)], [(10, ⟨65, [I6 0, VL none 0 0, VT ByteArray.empty]⟩), (12, ⟨65, [I6 174, VL A33 3 c33, VT ByteArray.empty]⟩)]⟩ ?_
     refine X.again (hJ26 _ _ _ ?_)
     refine RX.succ fun J34 hJ34 => ?_
     refine Rn 7 (Qo B57 2000 4) [Qs B57 2001, Qs B57 1001, .loop J34, .blk 0, Qs B57 63] ⟨51, [(4, I6 m), (10, .own 10 0), (11, VL A9 3 3), (12, .own 12 0), (13, I6 3), (32, I6 3), (33, I6 m), (34, VB (decide (3 < m))), (35, VB (decide (3 < m))), (36, I6 2), (37, VB true), (38, VB true), (39, I6 2), (40, I6 3), (41, .own 12 1), (42, VL A25 2 c25), (43, VL A9 3 3), (44, I6 2), (45, .v (elt A9 (2 * 1))), (46, I3 (x % 16777216)), (47, VL A32 1 1), (48, VL A33 3 c33), (49, .own 12 1)], [(10, ⟨65, [I6 0, VL none 0 0, VT ByteArray.empty]⟩), (12, ⟨65, [I6 174, VL A33 3 c33, VT ByteArray.empty]⟩)]⟩ ?_
     refine Sd 35 rfl ?_ ?_ <;> intro h35
     ·
      refine Rn 18 (.ex .ret) [] ⟨51, [(10, .own 10 0)], [(10, ⟨65, [I6 174, VL A33 3 c33, VT ByteArray.empty]⟩)]⟩ ?_
      refine Dg (.inl rfl) [.agg #[N6 174, .slice A33 3 c33, .string ByteArray.empty]] [48] rfl ((((((hG1.trans hG2).trans hG3).trans hG6).trans hG7).trans hG8)) ?_
      have hn_ : (max 0 (min m 3)).toNat = 3 := by omega
      have hk_ : k = 174 := by first | assumption | omega
      have hal_ : al k x y z m = [z % 16777216, y % 16777216, x % 16777216] := by unfold al; rw [hn_, if_pos hk_]; rfl
      have hak_ : ak k = 174 := by unfold ak; rw [if_pos hk_]
      rw [hal_, hak_]
      exact ⟨_, _, rfl, by first | assumption | decide, rfl⟩
     ·
      refine Rn 18 (.ex .ret) [] ⟨51, [(10, .own 10 0)], [(10, ⟨65, [I6 174, VL A33 3 c33, VT ByteArray.empty]⟩)]⟩ ?_
      refine Dg (.inl rfl) [.agg #[N6 174, .slice A33 3 c33, .string ByteArray.empty]] [48] rfl ((((((hG1.trans hG2).trans hG3).trans hG6).trans hG7).trans hG8)) ?_
      have hn_ : (max 0 (min m 3)).toNat = 3 := by omega
      have hk_ : k = 174 := by first | assumption | omega
      have hal_ : al k x y z m = [z % 16777216, y % 16777216, x % 16777216] := by unfold al; rw [hn_, if_pos hk_]; rfl
      have hak_ : ak k = 174 := by unfold ak; rw [if_pos hk_]
      rw [hal_, hak_]
      exact ⟨_, _, rfl, by first | assumption | decide, rfl⟩
    ·
     refine Rn 18 (.ex .ret) [] ⟨51, [(10, .own 10 0)], [(10, ⟨65, [I6 174, VL A25 2 c25, VT ByteArray.empty]⟩)]⟩ ?_
     refine Dg (.inl rfl) [.agg #[N6 174, .slice A25 2 c25, .string ByteArray.empty]] [48] rfl ((((((hG1.trans hG2).trans hG3).trans hG6).trans hG7).trans hG8)) ?_
     have hn_ : (max 0 (min m 3)).toNat = 2 := by omega
     have hk_ : k = 174 := by first | assumption | omega
     have hal_ : al k x y z m = [z % 16777216, y % 16777216] := by unfold al; rw [hn_, if_pos hk_]; rfl
     have hak_ : ak k = 174 := by unfold ak; rw [if_pos hk_]
     rw [hal_, hak_]
     exact ⟨_, _, rfl, by first | assumption | decide, rfl⟩
   ·
    refine Rn 18 (.ex .ret) [] ⟨51, [(10, .own 10 0)], [(10, ⟨65, [I6 174, VL A17 1 c17, VT ByteArray.empty]⟩)]⟩ ?_
    refine Dg (.inl rfl) [.agg #[N6 174, .slice A17 1 c17, .string ByteArray.empty]] [48] rfl ((((((hG1.trans hG2).trans hG3).trans hG6).trans hG7).trans hG8)) ?_
    have hn_ : (max 0 (min m 3)).toNat = 1 := by omega
    have hk_ : k = 174 := by first | assumption | omega
    have hal_ : al k x y z m = [z % 16777216] := by unfold al; rw [hn_, if_pos hk_]; rfl
    have hak_ : ak k = 174 := by unfold ak; rw [if_pos hk_]
    rw [hal_, hak_]
    exact ⟨_, _, rfl, by first | assumption | decide, rfl⟩
  ·
   refine Rn 18 (.ex .ret) [] ⟨51, [(10, .own 10 0)], [(10, ⟨65, [I6 174, VL none 0 0, VT ByteArray.empty]⟩)]⟩ ?_
   refine X.nilRow 900 29 1 rfl ?_
   refine Dg (.inl rfl) [.agg #[N6 174, .slice none 0 0, .string ByteArray.empty]] [900] rfl ((((((hG1.trans hG2).trans hG3).trans hG6).trans hG7).trans hG8)) ?_
   have hn_ : (max 0 (min m 3)).toNat = 0 := by omega
   have hk_ : k = 174 := by first | assumption | omega
   have hal_ : al k x y z m = [] := by unfold al; rw [hn_, if_pos hk_]; rfl
   have hak_ : ak k = 174 := by unfold ak; rw [if_pos hk_]
   rw [hal_, hak_]
   exact ⟨_, _, rfl, by first | assumption | decide, rfl⟩
 ·
  refine Ra 10 (Qc B57 250) 1 [.blk 0, Qs B57 63] [(13, I6 0)] ?_
  refine X.rounds 5 ?_
  refine RX.succ fun J36 hJ36 => ?_
  refine Rn 7 (Qo B57 2000 4) [Qs B57 2001, Qs B57 1001, .loop J36, .blk 0, Qs B57 63] ⟨51, [(4, I6 m), (10, .own 10 0), (11, VL A4 3 3), (12, .own 12 0), (13, I6 0), (32, I6 0), (33, I6 m), (34, VB (decide (0 < m))), (35, VB (decide (0 < m)))], [(10, ⟨65, [I6 0, VL none 0 0, VT ByteArray.empty]⟩), (12, ⟨65, [I6 172, VL none 0 0, VT ByteArray.empty]⟩)]⟩ ?_
  refine Sd 35 rfl ?_ ?_ <;> intro h37
  ·
   refine Ra 10 (Qc B57 4004) 2 [.blk 1, Qs B57 2003] [(35, VB true), (36, I6 0), (37, VB true), (38, VB true)] ?_
   refine Oh 9 B57 4004 10 [⟨some 12, 12, 65, [I6 172, VL none 0 0, VT ByteArray.empty]⟩] [(20, RR 29 1 A4 3 3 [N3 (x % 16777216), N3 (y % 16777216), N3 (z % 16777216)])] [9] ⟨P1, trivial⟩ Mt (fun ρ0 => ?_)
   refine Tk 0 10 1 B57 4004 (.own 12 1) QOk.ctxG ?_
   refine Tk 1 10 3 B57 4004 (VL none 0 0) QOk.ctxG ?_
   refine Tk 2 10 7 B57 4004 (VL A4 3 3) QOk.ctxG ?_
   refine Tk 3 10 15 B57 4004 (I6 0) QOk.ctxG ?_
   have b39 : (0 : Int) ≤ 0 := by omega
   have b40 : 0 < ((3 : Nat) : Int) := by omega
   have at41 : At G3 [(20, ⟨29, 1, .slice A4 3 3, 3, [.int .u32 (x % 16777216), .int .u32 (y % 16777216), .int .u32 (z % 16777216)]⟩)] A4 (0 * 1) [.int .u32 (x % 16777216)] := (At.of_row (i := 20) (r := ⟨29, 1, .slice A4 3 3, 3, [.int .u32 (x % 16777216), .int .u32 (y % 16777216), .int .u32 (z % 16777216)]⟩) rfl rfl).part 0 1
   refine Dx 4 10 31 B57 4004 63 29 1 A4 3 3 .i64 0 (.tmp 43) (.tmp 44) QOk.ctxG b39 b40 (rowSome (i := 20) (q := (RR 29 1 A4 3 3 [N3 (x % 16777216), N3 (y % 16777216), N3 (z % 16777216)])) rfl rfl (Nat.succ_pos _)) ?_
   refine Dl 5 10 63 B57 4004 29 A4 (0 * 1) (.tmp 45) (N3 (x % 16777216)) [N3 (x % 16777216)] QOk.ctxG at41 ?_
   refine Do 6 10 127 B57 4004 ?_
   refine Lt 47 29 1 1 [N3 (x % 16777216)] ?_
   intro A42
   refine X.back ⟨⟨P1, trivial⟩, Le.refl _, by kernel_rfl, ?_⟩
   refine Do 7 10 255 B57 4004 ?_
   refine Ap 48 (RR 29 1 none 0 0 []) 63 4 (N3 0) (.tmp 42) (.tmp 47) 0 0 1 1 none A42 [N3 (x % 16777216)] (.inr ⟨rfl, rfl, rfl, rfl⟩) (by kernel_rfl) (Ar 47 rfl) (Br 47 rfl) (ones (by kernel_rfl)) (by decide) ?_
   intro A43 c43 hc43
   refine Tr [48, 47, 20] ?_
   refine X.back ⟨⟨P1, trivial⟩, Le.refl _, by kernel_rfl, ?_⟩
   refine Ts [8] 10 511 1 2 QOk.ctxG ?_
   refine XD.toE ?_
   refine En ⟨51, [(4, I6 m), (10, .own 10 0), (11, VL A4 3 3), (12, .own 12 0), (13, I6 0), (32, I6 0), (33, I6 m), (34, VB (decide (0 < m))), (35, VB true), (36, I6 0), (37, VB true), (38, VB true), (41, .own 12 1), (42, VL none 0 0), (43, VL A4 3 3), (44, I6 0), (45, .v (elt A4 (0 * 1))), (46, I3 (x % 16777216)), (47, VL A42 1 1), (48, VL A43 1 c43), (49, .own 12 1)], [(10, ⟨65, [I6 0, VL none 0 0, VT ByteArray.empty]⟩), (12, ⟨65, [I6 172, VL none 0 0, VT ByteArray.empty]⟩)]⟩ ?_
   refine Eo 9 10 1023 B57 4004 ?_
   refine X.simple (by kernel_rfl) ?_
   refine X.back ?_
   refine XE.done (by kernel_rfl) ?_
   refine Rn 7 (.ex .normal) [.loop J36, .blk 0, Qs B57 63] ⟨51, [(4, I6 m), (10, .own 10 0), (11, VL A4 3 3), (12, .own 12 0), (13, I6 1), (32, I6 0), (33, I6 m), (34, VB (decide (0 < m))), (35, VB true), (36, I6 0), (37, VB true), (38, VB true), (39, I6 0), (40, I6 1), (41, .own 12 1), (42, VL none 0 0), (43, VL A4 3 3), (44, I6 0), (45, .v (elt A4 (0 * 1))), (46, I3 (x % 16777216)), (47, VL A42 1 1), (48, VL A43 1 c43), (49, .own 12 1)], [(10, ⟨65, [I6 0, VL none 0 0, VT ByteArray.empty]⟩), (12, ⟨65, [I6 172, VL A43 1 c43, VT ByteArray.empty]⟩)]⟩ ?_
   refine X.again (hJ36 _ _ _ ?_)
   refine RX.succ fun J44 hJ44 => ?_
   refine Rn 7 (Qo B57 2000 4) [Qs B57 2001, Qs B57 1001, .loop J44, .blk 0, Qs B57 63] ⟨51, [(4, I6 m), (10, .own 10 0), (11, VL A4 3 3), (12, .own 12 0), (13, I6 1), (32, I6 1), (33, I6 m), (34, VB (decide (1 < m))), (35, VB (decide (1 < m))), (36, I6 0), (37, VB true), (38, VB true), (39, I6 0), (40, I6 1), (41, .own 12 1), (42, VL none 0 0), (43, VL A4 3 3), (44, I6 0), (45, .v (elt A4 (0 * 1))), (46, I3 (x % 16777216)), (47, VL A42 1 1), (48, VL A43 1 c43), (49, .own 12 1)], [(10, ⟨65, [I6 0, VL none 0 0, VT ByteArray.empty]⟩), (12, ⟨65, [I6 172, VL A43 1 c43, VT ByteArray.empty]⟩)]⟩ ?_
   refine Sd 35 rfl ?_ ?_ <;> intro h45
   ·
    refine Ra 10 (Qc B57 4004) 2 [.blk 1, Qs B57 2003] [(35, VB true), (36, I6 1)] ?_
    refine Oh 9 B57 4004 10 [⟨some 12, 12, 65, [I6 172, VL A43 1 c43, VT ByteArray.empty]⟩] [(20, RR 29 1 A4 3 3 [N3 (x % 16777216), N3 (y % 16777216), N3 (z % 16777216)])] [9] ⟨P1, trivial⟩ Mt (fun ρ0 => ?_)
    refine Tk 0 10 1 B57 4004 (.own 12 1) QOk.ctxG ?_
    refine Tk 1 10 3 B57 4004 (VL A43 1 c43) QOk.ctxG ?_
    refine Tk 2 10 7 B57 4004 (VL A4 3 3) QOk.ctxG ?_
    refine Tk 3 10 15 B57 4004 (I6 1) QOk.ctxG ?_
    have b47 : (0 : Int) ≤ 1 := by omega
    have b48 : 1 < ((3 : Nat) : Int) := by omega
    have at49 : At G3 [(20, ⟨29, 1, .slice A4 3 3, 3, [.int .u32 (x % 16777216), .int .u32 (y % 16777216), .int .u32 (z % 16777216)]⟩)] A4 (1 * 1) [.int .u32 (y % 16777216)] := (At.of_row (i := 20) (r := ⟨29, 1, .slice A4 3 3, 3, [.int .u32 (x % 16777216), .int .u32 (y % 16777216), .int .u32 (z % 16777216)]⟩) rfl rfl).part 1 1
    refine Dx 4 10 31 B57 4004 63 29 1 A4 3 3 .i64 1 (.tmp 43) (.tmp 44) QOk.ctxG b47 b48 (rowSome (i := 20) (q := (RR 29 1 A4 3 3 [N3 (x % 16777216), N3 (y % 16777216), N3 (z % 16777216)])) rfl rfl (Nat.succ_pos _)) ?_
    refine Dl 5 10 63 B57 4004 29 A4 (1 * 1) (.tmp 45) (N3 (y % 16777216)) [N3 (y % 16777216)] QOk.ctxG at49 ?_
    refine Do 6 10 127 B57 4004 ?_
    refine Lt 47 29 1 1 [N3 (y % 16777216)] ?_
    intro A50
    refine X.back ⟨⟨P1, trivial⟩, Le.refl _, by kernel_rfl, ?_⟩
    refine Do 7 10 255 B57 4004 ?_
    refine Ap 48 _ 63 4 (N3 0) (.tmp 42) (.tmp 47) 1 c43 1 1 A43 A50 [N3 (y % 16777216)] (.inl rfl) (by kernel_rfl) (Ar 47 rfl) (Br 47 rfl) (ones (by kernel_rfl)) (by decide) ?_
    intro A51 c51 hc51
    refine Tr [48, 47, 20] ?_
    refine X.back ⟨⟨P1, trivial⟩, Le.refl _, by kernel_rfl, ?_⟩
    refine Ts [8] 10 511 1 2 QOk.ctxG ?_
    refine XD.toE ?_
    refine En ⟨51, [(4, I6 m), (10, .own 10 0), (11, VL A4 3 3), (12, .own 12 0), (13, I6 1), (32, I6 1), (33, I6 m), (34, VB (decide (1 < m))), (35, VB true), (36, I6 1), (37, VB true), (38, VB true), (39, I6 0), (40, I6 1), (41, .own 12 1), (42, VL A43 1 c43), (43, VL A4 3 3), (44, I6 1), (45, .v (elt A4 (1 * 1))), (46, I3 (y % 16777216)), (47, VL A50 1 1), (48, VL A51 2 c51), (49, .own 12 1)], [(10, ⟨65, [I6 0, VL none 0 0, VT ByteArray.empty]⟩), (12, ⟨65, [I6 172, VL A43 1 c43, VT ByteArray.empty]⟩)]⟩ ?_
    refine Eo 9 10 1023 B57 4004 ?_
    refine X.simple (by kernel_rfl) ?_
    refine X.back ?_
    refine XE.done (by kernel_rfl) ?_
    refine Rn 7 (.ex .normal) [.loop J44, .blk 0, Qs B57 63] ⟨51, [(4, I6 m), (10, .own 10 0), (11, VL A4 3 3), (12, .own 12 0), (13, I6 2), (32, I6 1), (33, I6 m), (34, VB (decide (1 < m))), (35, VB true), (36, I6 1), (37, VB true), (38, VB true), (39, I6 1), (40, I6 2), (41, .own 12 1), (42, VL A43 1 c43), (43, VL A4 3 3), (44, I6 1), (45, .v (elt A4 (1 * 1))), (46, I3 (y % 16777216)), (47, VL A50 1 1), (48, VL A51 2 c51), (49, .own 12 1)], [(10, ⟨65, [I6 0, VL none 0 0, VT ByteArray.empty]⟩), (12, ⟨65, [I6 172, VL A51 2 c51, VT ByteArray.empty]⟩)]⟩ ?_
    refine X.again (hJ44 _ _ _ ?_)
    refine RX.succ fun J52 hJ52 => ?_
    refine Rn 7 (Qo B57 2000 4) [Qs B57 2001, Qs B57 1001, .loop J52, .blk 0, Qs B57 63] ⟨51, [(4, I6 m), (10, .own 10 0), (11, VL A4 3 3), (12, .own 12 0), (13, I6 2), (32, I6 2), (33, I6 m), (34, VB (decide (2 < m))), (35, VB (decide (2 < m))), (36, I6 1), (37, VB true), (38, VB true), (39, I6 1), (40, I6 2), (41, .own 12 1), (42, VL A43 1 c43), (43, VL A4 3 3), (44, I6 1), (45, .v (elt A4 (1 * 1))), (46, I3 (y % 16777216)), (47, VL A50 1 1), (48, VL A51 2 c51), (49, .own 12 1)], [(10, ⟨65, [I6 0, VL none 0 0, VT ByteArray.empty]⟩), (12, ⟨65, [I6 172, VL A51 2 c51, VT ByteArray.empty]⟩)]⟩ ?_
    refine Sd 35 rfl ?_ ?_ <;> intro h53
    ·
     refine Ra 10 (Qc B57 4004) 2 [.blk 1, Qs B57 2003] [(35, VB true), (36, I6 2)] ?_
     refine Oh 9 B57 4004 10 [⟨some 12, 12, 65, [I6 172, VL A51 2 c51, VT ByteArray.empty]⟩] [(20, RR 29 1 A4 3 3 [N3 (x % 16777216), N3 (y % 16777216), N3 (z % 16777216)])] [9] ⟨P1, trivial⟩ Mt (fun ρ0 => ?_)
     refine Tk 0 10 1 B57 4004 (.own 12 1) QOk.ctxG ?_
     refine Tk 1 10 3 B57 4004 (VL A51 2 c51) QOk.ctxG ?_
     refine Tk 2 10 7 B57 4004 (VL A4 3 3) QOk.ctxG ?_
     refine Tk 3 10 15 B57 4004 (I6 2) QOk.ctxG ?_
     have b55 : (0 : Int) ≤ 2 := by omega
     have b56 : 2 < ((3 : Nat) : Int) := by omega
     have at57 : At G3 [(20, ⟨29, 1, .slice A4 3 3, 3, [.int .u32 (x % 16777216), .int .u32 (y % 16777216), .int .u32 (z % 16777216)]⟩)] A4 (2 * 1) [.int .u32 (z % 16777216)] := (At.of_row (i := 20) (r := ⟨29, 1, .slice A4 3 3, 3, [.int .u32 (x % 16777216), .int .u32 (y % 16777216), .int .u32 (z % 16777216)]⟩) rfl rfl).part 2 1
     refine Dx 4 10 31 B57 4004 63 29 1 A4 3 3 .i64 2 (.tmp 43) (.tmp 44) QOk.ctxG b55 b56 (rowSome (i := 20) (q := (RR 29 1 A4 3 3 [N3 (x % 16777216), N3 (y % 16777216), N3 (z % 16777216)])) rfl rfl (Nat.succ_pos _)) ?_
     refine Dl 5 10 63 B57 4004 29 A4 (2 * 1) (.tmp 45) (N3 (z % 16777216)) [N3 (z % 16777216)] QOk.ctxG at57 ?_
     refine Do 6 10 127 B57 4004 ?_
     refine Lt 47 29 1 1 [N3 (z % 16777216)] ?_
     intro A58
     refine X.back ⟨⟨P1, trivial⟩, Le.refl _, by kernel_rfl, ?_⟩
     refine Do 7 10 255 B57 4004 ?_
     refine Ap 48 _ 63 4 (N3 0) (.tmp 42) (.tmp 47) 2 c51 1 1 A51 A58 [N3 (z % 16777216)] (.inl rfl) (by kernel_rfl) (Ar 47 rfl) (Br 47 rfl) (ones (by kernel_rfl)) (by decide) ?_
     intro A59 c59 hc59
     refine Tr [48, 47, 20] ?_
     refine X.back ⟨⟨P1, trivial⟩, Le.refl _, by kernel_rfl, ?_⟩
     refine Ts [8] 10 511 1 2 QOk.ctxG ?_
     refine XD.toE ?_
     refine En ⟨51, [(4, I6 m), (10, .own 10 0), (11, VL A4 3 3), (12, .own 12 0), (13, I6 2), (32, I6 2), (33, I6 m), (34, VB (decide (2 < m))), (35, VB true), (36, I6 2), (37, VB true), (38, VB true), (39, I6 1), (40, I6 2), (41, .own 12 1), (42, VL A51 2 c51), (43, VL A4 3 3), (44, I6 2), (45, .v (elt A4 (2 * 1))), (46, I3 (z % 16777216)), (47, VL A58 1 1), (48, VL A59 3 c59), (49, .own 12 1)], [(10, ⟨65, [I6 0, VL none 0 0, VT ByteArray.empty]⟩), (12, ⟨65, [I6 172, VL A51 2 c51, VT ByteArray.empty]⟩)]⟩ ?_
     refine Eo 9 10 1023 B57 4004 ?_
     refine X.simple (by kernel_rfl) ?_
     refine X.back ?_
     refine XE.done (by kernel_rfl) ?_
     refine Rn 7 (.ex .normal) [.loop J52, .blk 0, Qs B57 63] ⟨51, [(4, I6 m), (10, .own 10 0), (11, VL A4 3 3), (12, .own 12 0), (13, I6 3), (32, I6 2), (33, I6 m), (34, VB (decide (2 < m))), (35, VB true), (36, I6 2), (37, VB true), (38, VB true), (39, I6 2), (40, I6 3), (41, .own 12 1), (42, VL A51 2 c51), (43, VL A4 3 3), (44, I6 2), (45, .v (elt A4 (2 * 1))), (46, I3 (z % 16777216)), (47, VL A58 1 1), (48, VL A59 3 c59), (49, .own 12 1)], [(10, ⟨65, [I6 0, VL none 0 0, VT ByteArray.empty]⟩), (12, ⟨65, [I6 172, VL A59 3 c59, VT ByteArray.empty]⟩)]⟩ ?_
     refine X.again (hJ52 _ _ _ ?_)
     refine RX.succ fun J60 hJ60 => ?_
     refine Rn 7 (Qo B57 2000 4) [Qs B57 2001, Qs B57 1001, .loop J60, .blk 0, Qs B57 63] ⟨51, [(4, I6 m), (10, .own 10 0), (11, VL A4 3 3), (12, .own 12 0), (13, I6 3), (32, I6 3), (33, I6 m), (34, VB (decide (3 < m))), (35, VB (decide (3 < m))), (36, I6 2), (37, VB true), (38, VB true), (39, I6 2), (40, I6 3), (41, .own 12 1), (42, VL A51 2 c51), (43, VL A4 3 3), (44, I6 2), (45, .v (elt A4 (2 * 1))), (46, I3 (z % 16777216)), (47, VL A58 1 1), (48, VL A59 3 c59), (49, .own 12 1)], [(10, ⟨65, [I6 0, VL none 0 0, VT ByteArray.empty]⟩), (12, ⟨65, [I6 172, VL A59 3 c59, VT ByteArray.empty]⟩)]⟩ ?_
     refine Sd 35 rfl ?_ ?_ <;> intro h61
     ·
      refine Rn 18 (.ex .ret) [] ⟨51, [(10, .own 10 0)], [(10, ⟨65, [I6 172, VL A59 3 c59, VT ByteArray.empty]⟩)]⟩ ?_
      refine Dg (.inl rfl) [.agg #[N6 172, .slice A59 3 c59, .string ByteArray.empty]] [48] rfl (((hG1.trans hG2).trans hG3)) ?_
      have hn_ : (max 0 (min m 3)).toNat = 3 := by omega
      have hk_ : k ≠ 174 := by first | assumption | omega
      have hal_ : al k x y z m = [x % 16777216, y % 16777216, z % 16777216] := by unfold al; rw [hn_, if_neg hk_]; rfl
      have hak_ : ak k = 172 := by unfold ak; rw [if_neg hk_]
      rw [hal_, hak_]
      exact ⟨_, _, rfl, by first | assumption | decide, rfl⟩
     ·
      refine Rn 18 (.ex .ret) [] ⟨51, [(10, .own 10 0)], [(10, ⟨65, [I6 172, VL A59 3 c59, VT ByteArray.empty]⟩)]⟩ ?_
      refine Dg (.inl rfl) [.agg #[N6 172, .slice A59 3 c59, .string ByteArray.empty]] [48] rfl (((hG1.trans hG2).trans hG3)) ?_
      have hn_ : (max 0 (min m 3)).toNat = 3 := by omega
      have hk_ : k ≠ 174 := by first | assumption | omega
      have hal_ : al k x y z m = [x % 16777216, y % 16777216, z % 16777216] := by unfold al; rw [hn_, if_neg hk_]; rfl
      have hak_ : ak k = 172 := by unfold ak; rw [if_neg hk_]
      rw [hal_, hak_]
      exact ⟨_, _, rfl, by first | assumption | decide, rfl⟩
    ·
     refine Rn 18 (.ex .ret) [] ⟨51, [(10, .own 10 0)], [(10, ⟨65, [I6 172, VL A51 2 c51, VT ByteArray.empty]⟩)]⟩ ?_
     refine Dg (.inl rfl) [.agg #[N6 172, .slice A51 2 c51, .string ByteArray.empty]] [48] rfl (((hG1.trans hG2).trans hG3)) ?_
     have hn_ : (max 0 (min m 3)).toNat = 2 := by omega
     have hk_ : k ≠ 174 := by first | assumption | omega
     have hal_ : al k x y z m = [x % 16777216, y % 16777216] := by unfold al; rw [hn_, if_neg hk_]; rfl
     have hak_ : ak k = 172 := by unfold ak; rw [if_neg hk_]
     rw [hal_, hak_]
     exact ⟨_, _, rfl, by first | assumption | decide, rfl⟩
   ·
    refine Rn 18 (.ex .ret) [] ⟨51, [(10, .own 10 0)], [(10, ⟨65, [I6 172, VL A43 1 c43, VT ByteArray.empty]⟩)]⟩ ?_
    refine Dg (.inl rfl) [.agg #[N6 172, .slice A43 1 c43, .string ByteArray.empty]] [48] rfl (((hG1.trans hG2).trans hG3)) ?_
    have hn_ : (max 0 (min m 3)).toNat = 1 := by omega
    have hk_ : k ≠ 174 := by first | assumption | omega
    have hal_ : al k x y z m = [x % 16777216] := by unfold al; rw [hn_, if_neg hk_]; rfl
    have hak_ : ak k = 172 := by unfold ak; rw [if_neg hk_]
    rw [hal_, hak_]
    exact ⟨_, _, rfl, by first | assumption | decide, rfl⟩
  ·
   refine Rn 18 (.ex .ret) [] ⟨51, [(10, .own 10 0)], [(10, ⟨65, [I6 172, VL none 0 0, VT ByteArray.empty]⟩)]⟩ ?_
   refine X.nilRow 900 29 1 rfl ?_
   refine Dg (.inl rfl) [.agg #[N6 172, .slice none 0 0, .string ByteArray.empty]] [900] rfl (((hG1.trans hG2).trans hG3)) ?_
   have hn_ : (max 0 (min m 3)).toNat = 0 := by omega
   have hk_ : k ≠ 174 := by first | assumption | omega
   have hal_ : al k x y z m = [] := by unfold al; rw [hn_, if_neg hk_]; rfl
   have hak_ : ak k = 172 := by unfold ak; rw [if_neg hk_]
   rw [hal_, hak_]
   exact ⟨_, _, rfl, by first | assumption | decide, rfl⟩
end Go.Proofs.YtjgpdbkkpomhjaaX
