/- leatref12.All. Conditions: none. -/
import Derived.Test.YtjgpdbkkpomhjaaProg
import Derived.KernelRfl
import Derived.Test.YtjgpdbkkpomhjaaYI2
namespace Go.Proofs.YtjgpdbkkpomhjaaX
open Go.RowKit
open Go.Proofs.YtjgpdbkkpomhjaaW.PrintLast
set_option linter.unusedVariables false
set_option linter.unusedSimpArgs false
set_option maxRecDepth 100000
theorem take_ext {xs ys : List Int} {i : Nat} (h : xs.take i = ys.take i) (hi : i < xs.length) (hj : i < ys.length) (he : xs.getD i 0 = ys.getD i 0) : xs.take (i + 1) = ys.take (i + 1) := by
 rw [List.take_succ_eq_append_getElem hi, List.take_succ_eq_append_getElem hj, h]
 simp [hi, hj] at he
 rw [he]
/-- leat/leatref12.Same -/
noncomputable def B52 : Code := bodyOf Try.f52
set_option maxHeartbeats 1000000 in
theorem Same_ok (k1 k2 : Int) (A B : Option Addr) (ca cb : Nat) (xs ys : List Int) (s1 s2 : ByteArray) (G : Mem) (hx : rowAt (D.int .u32) G A xs) (hy : rowAt (D.int .u32) G B ys) (hxc : xs.length ≤ ca) (hyc : ys.length ≤ cb) (hxm : ca ≤ maxLen) (hym : cb ≤ maxLen) : CallsG Try.prog 52 [.agg #[.int .i64 k1, .slice A xs.length ca, .string s1], .agg #[.int .i64 k2, .slice B ys.length cb, .string s2]] G (fun _ v rows => v = .bool (decide (k1 = k2 ∧ s1 = s2 ∧ xs = ys)) ∧ rows = []) := by
 simp only [maxLen] at hxm hym
 refine CallsG.enter Try.func52 rfl rfl ?_
 intro w
 refine Rn 16 (Qo B52 12 6) [Qs B52 13, Qs B52 7] ⟨45, [(2, .own 2 0), (3, .own 3 0), (4, VB false), (11, VB (k1 != k2))], [(2, ⟨65, [I6 k1, VL A xs.length ca, VT s1]⟩), (3, ⟨65, [I6 k2, VL B ys.length cb, VT s2]⟩)]⟩ ?_
 refine X.split 11 rfl (fun h1 => ?_) (fun h1 => ?_)
 ·
  replace h1 : k1 ≠ k2 := by simpa using h1
  refine Rn 25 (.ex .ret) [] ⟨45, [(4, VB false)], []⟩ ?_
  refine Dg (.inl rfl) [.bool false] [] rfl (Ge.refl _ _) ?_
  exact ⟨congrArg Value.bool (by rw [eq_comm, decide_eq_false_iff_not]; rintro ⟨e1_, e2_, e3_⟩; subst e3_; first | contradiction | (simp_all; done) | omega), rfl⟩
 ·
  replace h1 : k1 = k2 := by simpa using h1
  refine Rn 7 (Qo B52 12 13) [Qs B52 13, Qs B52 7] ⟨45, [(2, .own 2 0), (3, .own 3 0), (4, VB false), (18, VB (!(s1.toList == s2.toList)))], [(2, ⟨65, [I6 k1, VL A xs.length ca, VT s1]⟩), (3, ⟨65, [I6 k2, VL B ys.length cb, VT s2]⟩)]⟩ ?_
  refine X.split 18 rfl (fun h2 => ?_) (fun h2 => ?_)
  ·
   replace h2 : (s1.toList == s2.toList) = false := by simpa using h2
   replace h2 : s1 ≠ s2 := strF h2
   refine Rn 18 (.ex .ret) [] ⟨45, [(4, VB false)], []⟩ ?_
   refine Dg (.inl rfl) [.bool false] [] rfl (Ge.refl _ _) ?_
   exact ⟨congrArg Value.bool (by rw [eq_comm, decide_eq_false_iff_not]; rintro ⟨e1_, e2_, e3_⟩; subst e3_; first | contradiction | (simp_all; done) | omega), rfl⟩
  ·
   replace h2 : (s1.toList == s2.toList) = true := by simpa using h2
   replace h2 : s1 = s2 := strT h2
   refine Rn 10 (Qc B52 13) [Qs B52 7] ⟨45, [(2, .own 2 0), (3, .own 3 0), (4, VB false), (26, VB ((xs.length : Int) != (ys.length : Int)))], [(2, ⟨65, [I6 k1, VL A xs.length ca, VT s1]⟩), (3, ⟨65, [I6 k2, VL B ys.length cb, VT s2]⟩)]⟩ ?_
   refine X.split 26 rfl (fun h3 => ?_) (fun h3 => ?_)
   ·
    replace h3 : ((xs.length : Nat) : Int) ≠ ((ys.length : Nat) : Int) := by simpa using h3
    refine Rn 8 (.ex .ret) [] ⟨45, [(4, VB false)], []⟩ ?_
    refine Dg (.inl rfl) [.bool false] [] rfl (Ge.refl _ _) ?_
    exact ⟨congrArg Value.bool (by rw [eq_comm, decide_eq_false_iff_not]; rintro ⟨e1_, e2_, e3_⟩; subst e3_; first | contradiction | (simp_all; done) | omega), rfl⟩
   ·
    replace h3 : ((xs.length : Nat) : Int) = ((ys.length : Nat) : Int) := by simpa using h3
    refine Rn 10 (Qc B52 58) [.blk 0, Qs B52 15] ⟨45, [(2, .own 2 0), (3, .own 3 0), (4, VB false), (5, I6 0)], [(2, ⟨65, [I6 k1, VL A xs.length ca, VT s1]⟩), (3, ⟨65, [I6 k2, VL B ys.length cb, VT s2]⟩)]⟩ ?_
    refine Rn 0 (Qc B52 58) [.blk 0, Qs B52 15] ⟨45, [(2, .own 2 0), (3, .own 3 0), (5, I6 0)], [(2, ⟨65, [I6 k1, VL A xs.length ca, VT s1]⟩), (3, ⟨65, [I6 k2, VL B ys.length cb, VT s2]⟩)]⟩ ?_
    refine X.loopJ (fun m s R' G' => ∃ (i : Int), s = ⟨45, [(2, .own 2 0), (3, .own 3 0), (5, I6 i)], [(2, ⟨65, [I6 k1, VL A xs.length ca, VT s1]⟩), (3, ⟨65, [I6 k2, VL B ys.length cb, VT s2]⟩)]⟩ ∧ R' = [] ∧ G = G' ∧ (0 ≤ i ∧ i ≤ (xs.length : Int) ∧ xs.take i.toNat = ys.take i.toNat) ∧ m = ((xs.length : Int) - i).toNat) _ ⟨0, rfl, rfl, rfl, ⟨by omega, by omega, rfl⟩, rfl⟩ ?_
    rintro m4 s4 R4 G4 ⟨i, rfl, rfl, rfl, hF4, rfl⟩ J4 hJ4
    have hS := hF4
    obtain ⟨hi0, hi1, hi2⟩ := hF4
    refine Rn 10 (Qc B52 465) [Qs B52 233, .loop J4, .blk 0, Qs B52 15] ⟨45, [(2, .own 2 0), (3, .own 3 0), (5, I6 i), (31, VB (decide (i < (xs.length : Int))))], [(2, ⟨65, [I6 k1, VL A xs.length ca, VT s1]⟩), (3, ⟨65, [I6 k2, VL B ys.length cb, VT s2]⟩)]⟩ ?_
    refine X.split 31 rfl (fun h5 => ?_) (fun h5 => ?_)
    ·
     replace h5 : i < ((xs.length : Nat) : Int) := of_decide_eq_true h5
     refine Rn 6 (Qc B52 1864) [Qs B52 1865, .blk 1, Qs B52 467, .loop J4, .blk 0, Qs B52 15] ⟨45, [(2, .own 2 0), (3, .own 3 0), (5, I6 i)], [(2, ⟨65, [I6 k1, VL A xs.length ca, VT s1]⟩), (3, ⟨65, [I6 k2, VL B ys.length cb, VT s2]⟩)]⟩ ?_
     have hx_d6 := hx
     have hy_d6 := hy
     refine Og 6 B52 1864 11 [⟨some 2, 2, 65, [I6 k1, VL A xs.length ca, VT s1]⟩, ⟨some 3, 3, 65, [I6 k2, VL B ys.length cb, VT s2]⟩] [] [] ⟨⟨fun _ h => (by cases h; rfl), rfl⟩, ⟨fun _ h => (by cases h; rfl), rfl⟩, trivial⟩ (by intro p hp hn; simp only [List.mem_cons, List.not_mem_nil, or_false] at hp; rcases hp with rfl | rfl <;> first | (cases hn; done) | exact absurd _ (Nat.le_of_ble_eq_true rfl)) (fun ρ0 => ?_)
     refine Tk 0 11 1 B52 1864 (.own 2 1) QOk.ctxG ?_
     refine Tk 1 11 3 B52 1864 (VL A xs.length ca) QOk.ctxG ?_
     refine Tk 2 11 7 B52 1864 (I6 i) QOk.ctxG ?_
     have b7 : (0 : Int) ≤ i := by omega
     have b8 : i < ((xs.length : Nat) : Int) := by omega
     obtain ⟨at9, lo9, hi9⟩ := At.int [] hx_d6 ((i).toNat) (by omega)
     simp only [IntKind.lo, IntKind.hi] at lo9 hi9
     refine Dx 3 11 15 B52 1864 63 29 1 A xs.length ca .i64 i (.tmp 35) (.tmp 36) QOk.ctxG b7 b8 (fun _ _ => rowAt.so hx_d6 (by omega)) ?_
     refine Dl 4 11 31 B52 1864 29 A ((i).toNat * 1) (.tmp 37) (N3 (xs.getD i.toNat 0)) [N3 (xs.getD i.toNat 0)] QOk.ctxG at9 ?_
     refine Tk 5 11 63 B52 1864 (.own 3 1) QOk.ctxG ?_
     refine Tk 6 11 127 B52 1864 (VL B ys.length cb) QOk.ctxG ?_
     refine Tk 7 11 255 B52 1864 (I6 i) QOk.ctxG ?_
     have b10 : (0 : Int) ≤ i := by omega
     have b11 : i < ((ys.length : Nat) : Int) := by omega
     obtain ⟨at12, lo12, hi12⟩ := At.int [] hy_d6 ((i).toNat) (by omega)
     simp only [IntKind.lo, IntKind.hi] at lo12 hi12
     refine Dx 8 11 511 B52 1864 63 29 1 B ys.length cb .i64 i (.tmp 40) (.tmp 41) QOk.ctxG b10 b11 (fun _ _ => rowAt.so hy_d6 (by omega)) ?_
     refine Dl 9 11 1023 B52 1864 29 B ((i).toNat * 1) (.tmp 42) (N3 (ys.getD i.toNat 0)) [N3 (ys.getD i.toNat 0)] QOk.ctxG at12 ?_
     refine Ts [10] 11 2047 0 1 QOk.ctxG ?_
     refine XD.done (by kernel_rfl) ?_
     refine Rn 1 (Qc B52 1865) [.blk 1, Qs B52 467, .loop J4, .blk 0, Qs B52 15] ⟨45, [(2, .own 2 0), (3, .own 3 0), (5, I6 i), (44, VB ((xs.getD i.toNat 0) != (ys.getD i.toNat 0)))], [(2, ⟨65, [I6 k1, VL A xs.length ca, VT s1]⟩), (3, ⟨65, [I6 k2, VL B ys.length cb, VT s2]⟩)]⟩ ?_
     refine X.split 44 rfl (fun h13 => ?_) (fun h13 => ?_)
     ·
      replace h13 : (xs.getD ((i).toNat) 0) ≠ (ys.getD ((i).toNat) 0) := by simpa using h13
      refine Rn 12 (.ex .ret) [] ⟨45, [(4, VB false)], []⟩ ?_
      refine Dg (.inl rfl) [.bool false] [] rfl (Ge.refl _ _) ?_
      exact ⟨congrArg Value.bool (by rw [eq_comm, decide_eq_false_iff_not]; rintro ⟨e1_, e2_, e3_⟩; subst e3_; first | contradiction | (simp_all; done) | omega), rfl⟩
     ·
      replace h13 : (xs.getD ((i).toNat) 0) = (ys.getD ((i).toNat) 0) := by simpa using h13
      refine Rn 9 (.ex .normal) [.loop J4, .blk 0, Qs B52 15] ⟨45, [(2, .own 2 0), (3, .own 3 0), (5, I6 (IntKind.i64.wrap (i + 1)))], [(2, ⟨65, [I6 k1, VL A xs.length ca, VT s1]⟩), (3, ⟨65, [I6 k2, VL B ys.length cb, VT s2]⟩)]⟩ ?_
      have e1 : IntKind.i64.wrap (i + 1) = i + 1 := wi64 (by omega) (by omega)
      have e0 : (i + 1).toNat = i.toNat + 1 := by omega
      exact X.again (hJ4 _ _ _ _ ⟨IntKind.i64.wrap (i + 1), rfl, rfl, rfl, ⟨by omega, by omega, by rw [e1, e0]; exact take_ext hi2 (by omega) (by omega) (by assumption)⟩, rfl⟩ (by rw [e1]; omega))
    ·
     replace h5 : ¬ (i < ((xs.length : Nat) : Int)) := of_decide_eq_false h5
     refine Rn 12 (.ex .ret) [] ⟨45, [(4, VB true)], []⟩ ?_
     refine Dg (.inl rfl) [.bool true] [] rfl (Ge.refl _ _) ?_
     have hl_ : xs.length = ys.length := by omega
     have h1_ := hi2
     rw [List.take_of_length_le (by omega), List.take_of_length_le (by omega)] at h1_
     exact ⟨congrArg Value.bool (by rw [eq_comm, decide_eq_true_iff]; exact ⟨by assumption, by assumption, h1_⟩), rfl⟩
theorem take_extO {xs ys : List Opt} {i : Nat} (h : xs.take i = ys.take i) (hi : i < xs.length) (hj : i < ys.length) (he : (xs.getD i opt0).1 = (ys.getD i opt0).1 ∧ (xs.getD i opt0).2.2 = (ys.getD i opt0).2.2 ∧ (xs.getD i opt0).2.1 = (ys.getD i opt0).2.1) : xs.take (i + 1) = ys.take (i + 1) := by
 rw [take_step hi, take_step hj, h]
 have e : xs.getD i opt0 = ys.getD i opt0 := Prod.ext he.1 (Prod.ext he.2.2 he.2.1)
 rw [e]
/-- leat/leatref12.All -/
noncomputable def B60 : Code := bodyOf Try.f60
set_option maxHeartbeats 1000000 in
theorem All_ok (A B : Option Addr) (ca cb : Nat) (xs ys : List Opt) (G : Mem) (hx : rowAt optD G A xs) (hy : rowAt optD G B ys) (hxc : xs.length ≤ ca) (hyc : ys.length ≤ cb) (hxm : ca ≤ maxLen) (hym : cb ≤ maxLen) : CallsG Try.prog 60 [.slice A xs.length ca, .slice B ys.length cb] G (fun _ v rows => v = .bool (decide (xs = ys)) ∧ rows = []) := by
 simp only [maxLen] at hxm hym
 refine CallsG.enter Try.func60 rfl rfl ?_
 intro w
 refine Rn 15 (Qc B60 13) [Qs B60 7] ⟨27, [(0, VL A xs.length ca), (1, VL B ys.length cb), (4, VB false), (10, VB ((xs.length : Int) != (ys.length : Int)))], []⟩ ?_
 refine X.split 10 rfl (fun h1 => ?_) (fun h1 => ?_)
 ·
  replace h1 : ((xs.length : Nat) : Int) ≠ ((ys.length : Nat) : Int) := by simpa using h1
  refine Rn 8 (.ex .ret) [] ⟨27, [(4, VB false)], []⟩ ?_
  refine Dg (.inl rfl) [.bool false] [] rfl (Ge.refl _ _) ?_
  exact ⟨congrArg Value.bool (by rw [eq_comm, decide_eq_false_iff_not]; intro e_; subst e_; omega), rfl⟩
 ·
  replace h1 : ((xs.length : Nat) : Int) = ((ys.length : Nat) : Int) := by simpa using h1
  refine Rn 10 (Qc B60 58) [.blk 0, Qs B60 15] ⟨27, [(0, VL A xs.length ca), (1, VL B ys.length cb), (4, VB false), (5, I6 0)], []⟩ ?_
  refine Rn 0 (Qc B60 58) [.blk 0, Qs B60 15] ⟨27, [(0, VL A xs.length ca), (1, VL B ys.length cb), (5, I6 0)], []⟩ ?_
  refine X.loopJ (fun m s R' G' => ∃ (i : Int), s = ⟨27, [(0, VL A xs.length ca), (1, VL B ys.length cb), (5, I6 i)], []⟩ ∧ R' = [] ∧ Ge G w.heap.size G' ∧ (0 ≤ i ∧ i ≤ (xs.length : Int) ∧ xs.take i.toNat = ys.take i.toNat) ∧ m = ((xs.length : Int) - i).toNat) _ ⟨0, rfl, rfl, Ge.refl _ _, ⟨by omega, by omega, rfl⟩, rfl⟩ ?_
  rintro m2 s2 R2 G2 ⟨i, rfl, rfl, hG2, hF2, rfl⟩ J2 hJ2
  replace hx := hx.mono hG2.le
  replace hy := hy.mono hG2.le
  obtain ⟨hi0, hi1, hi2⟩ := hF2
  refine Rn 9 (Qc B60 465) [Qs B60 233, .loop J2, .blk 0, Qs B60 15] ⟨27, [(0, VL A xs.length ca), (1, VL B ys.length cb), (5, I6 i), (14, VB (decide (i < (xs.length : Int))))], []⟩ ?_
  refine X.split 14 rfl (fun h3 => ?_) (fun h3 => ?_)
  ·
   replace h3 : i < ((xs.length : Nat) : Int) := of_decide_eq_true h3
   refine Rn 6 (Qc B60 1864) [Qs B60 1865, .blk 1, Qs B60 467, .loop J2, .blk 0, Qs B60 15] ⟨27, [(0, VL A xs.length ca), (1, VL B ys.length cb), (5, I6 i)], []⟩ ?_
   have hx_d4 := hx
   have hy_d4 := hy
   refine Og 6 B60 1864 10 [] [] [] trivial (by simp) (fun ρ0 => ?_)
   refine Tk 0 10 1 B60 1864 (VL A xs.length ca) QOk.ctxG ?_
   refine Tk 1 10 3 B60 1864 (I6 i) QOk.ctxG ?_
   have b5 : (0 : Int) ≤ i := by omega
   have b6 : i < ((xs.length : Nat) : Int) := by omega
   obtain ⟨A7, c7, at7, kr7, le7, mx7, hr7⟩ := At.opt [] hx_d4 ((i).toNat) (by omega)
   simp only [IntKind.lo, IntKind.hi, maxLen] at kr7 mx7
   refine Dx 2 10 7 B60 1864 59 65 3 A xs.length ca .i64 i (.tmp 17) (.tmp 18) QOk.ctxG b5 b6 (fun _ _ => rowAt.so hx_d4 (by omega)) ?_
   refine Dl 3 10 15 B60 1864 65 A ((i).toNat * 3) (.tmp 19) (.agg #[N6 ((xs.getD i.toNat opt0).1), .slice A7 ((xs.getD i.toNat opt0).2.1.length) c7, .string ((xs.getD i.toNat opt0).2.2)]) [N6 ((xs.getD i.toNat opt0).1), .slice A7 ((xs.getD i.toNat opt0).2.1.length) c7, .string ((xs.getD i.toNat opt0).2.2)] QOk.ctxG at7 ?_
   refine Tk 4 10 31 B60 1864 (VL B ys.length cb) QOk.ctxG ?_
   refine Tk 5 10 63 B60 1864 (I6 i) QOk.ctxG ?_
   have b8 : (0 : Int) ≤ i := by omega
   have b9 : i < ((ys.length : Nat) : Int) := by omega
   obtain ⟨A10, c10, at10, kr10, le10, mx10, hr10⟩ := At.opt [] hy_d4 ((i).toNat) (by omega)
   simp only [IntKind.lo, IntKind.hi, maxLen] at kr10 mx10
   refine Dx 6 10 127 B60 1864 59 65 3 B ys.length cb .i64 i (.tmp 21) (.tmp 22) QOk.ctxG b8 b9 (fun _ _ => rowAt.so hy_d4 (by omega)) ?_
   refine Dl 7 10 255 B60 1864 65 B ((i).toNat * 3) (.tmp 23) (.agg #[N6 ((ys.getD i.toNat opt0).1), .slice A10 ((ys.getD i.toNat opt0).2.1.length) c10, .string ((ys.getD i.toNat opt0).2.2)]) [N6 ((ys.getD i.toNat opt0).1), .slice A10 ((ys.getD i.toNat opt0).2.1.length) c10, .string ((ys.getD i.toNat opt0).2.2)] QOk.ctxG at10 ?_
   refine Dn ⟨27, [(0, VL A xs.length ca), (1, VL B ys.length cb), (5, I6 i), (20, .v (.agg #[N6 ((xs.getD i.toNat opt0).1), .slice A7 ((xs.getD i.toNat opt0).2.1.length) c7, .string ((xs.getD i.toNat opt0).2.2)])), (24, .v (.agg #[N6 ((ys.getD i.toNat opt0).1), .slice A10 ((ys.getD i.toNat opt0).2.1.length) c10, .string ((ys.getD i.toNat opt0).2.2)]))], []⟩ trivial ?_
   refine Do 8 10 511 B60 1864 ?_
   refine Cg 52 [.agg #[N6 ((xs.getD i.toNat opt0).1), .slice A7 ((xs.getD i.toNat opt0).2.1.length) c7, .string ((xs.getD i.toNat opt0).2.2)], .agg #[N6 ((ys.getD i.toNat opt0).1), .slice A10 ((ys.getD i.toNat opt0).2.1.length) c10, .string ((ys.getD i.toNat opt0).2.2)]] 0 (Same_ok ((xs.getD i.toNat opt0).1) ((ys.getD i.toNat opt0).1) A7 A10 c7 c10 ((xs.getD i.toNat opt0).2.1) ((ys.getD i.toNat opt0).2.1) ((xs.getD i.toNat opt0).2.2) ((ys.getD i.toNat opt0).2.2) _ hr7 hr10 le7 le10 mx7 mx10) ?_
   rintro v11 G11 rows11 hG11 ⟨rfl, rfl⟩
   replace hx := hx.mono hG11.le
   replace hy := hy.mono hG11.le
   replace hr7 := hr7.mono hG11.le
   replace hr10 := hr10.mono hG11.le
   refine X.back ⟨trivial, hG11.le, rfl, ?_⟩
   refine Ts [9] 10 1023 0 1 QOk.ctxG ?_
   refine XD.done (by kernel_rfl) ?_
   refine Rn 1 (Qc B60 1865) [.blk 1, Qs B60 467, .loop J2, .blk 0, Qs B60 15] ⟨27, [(0, VL A xs.length ca), (1, VL B ys.length cb), (5, I6 i), (26, VB (!(decide (((xs.getD i.toNat opt0).1 : Int) = (ys.getD i.toNat opt0).1 ∧ ((xs.getD i.toNat opt0).2.2 : ByteArray) = (ys.getD i.toNat opt0).2.2 ∧ ((xs.getD i.toNat opt0).2.1 : List Int) = (ys.getD i.toNat opt0).2.1))))], []⟩ ?_
   refine X.split 26 rfl (fun h12 => ?_) (fun h12 => ?_)
   ·
    replace h12 : (decide (((xs.getD ((i).toNat) opt0).1 : Int) = (ys.getD ((i).toNat) opt0).1 ∧ ((xs.getD ((i).toNat) opt0).2.2 : ByteArray) = (ys.getD ((i).toNat) opt0).2.2 ∧ ((xs.getD ((i).toNat) opt0).2.1 : List Int) = (ys.getD ((i).toNat) opt0).2.1)) = false := by first | (simpa using h12; done) | (have h_ := congrArg (fun b_ => !b_) h12; simpa only [Bool.not_not, Bool.not_true, Bool.not_false] using h_)
    replace h12 : ¬ (((xs.getD ((i).toNat) opt0).1 : Int) = (ys.getD ((i).toNat) opt0).1 ∧ ((xs.getD ((i).toNat) opt0).2.2 : ByteArray) = (ys.getD ((i).toNat) opt0).2.2 ∧ ((xs.getD ((i).toNat) opt0).2.1 : List Int) = (ys.getD ((i).toNat) opt0).2.1) := of_decide_eq_false h12
    refine Rn 12 (.ex .ret) [] ⟨27, [(4, VB false)], []⟩ ?_
    refine Dg (.inl rfl) [.bool false] [] rfl ((hG2.trans hG11)) ?_
    exact ⟨congrArg Value.bool (by rw [eq_comm, decide_eq_false_iff_not]; intro e_; subst e_; exact (show ¬ (_ ∧ _ ∧ _) by assumption) ⟨rfl, rfl, rfl⟩), rfl⟩
   ·
    replace h12 : (decide (((xs.getD ((i).toNat) opt0).1 : Int) = (ys.getD ((i).toNat) opt0).1 ∧ ((xs.getD ((i).toNat) opt0).2.2 : ByteArray) = (ys.getD ((i).toNat) opt0).2.2 ∧ ((xs.getD ((i).toNat) opt0).2.1 : List Int) = (ys.getD ((i).toNat) opt0).2.1)) = true := by first | (simpa using h12; done) | (have h_ := congrArg (fun b_ => !b_) h12; simpa only [Bool.not_not, Bool.not_true, Bool.not_false] using h_)
    replace h12 : ((xs.getD ((i).toNat) opt0).1 : Int) = (ys.getD ((i).toNat) opt0).1 ∧ ((xs.getD ((i).toNat) opt0).2.2 : ByteArray) = (ys.getD ((i).toNat) opt0).2.2 ∧ ((xs.getD ((i).toNat) opt0).2.1 : List Int) = (ys.getD ((i).toNat) opt0).2.1 := of_decide_eq_true h12
    refine Rn 9 (.ex .normal) [.loop J2, .blk 0, Qs B60 15] ⟨27, [(0, VL A xs.length ca), (1, VL B ys.length cb), (5, I6 (IntKind.i64.wrap (i + 1)))], []⟩ ?_
    have e1 : IntKind.i64.wrap (i + 1) = i + 1 := wi64 (by omega) (by omega)
    have e0 : (i + 1).toNat = i.toNat + 1 := by omega
    exact X.again (hJ2 _ _ _ _ ⟨IntKind.i64.wrap (i + 1), rfl, rfl, (hG2.trans hG11), ⟨by omega, by omega, by rw [e1, e0]; exact take_extO hi2 (by omega) (by omega) (by assumption)⟩, rfl⟩ (by rw [e1]; omega))
  ·
   replace h3 : ¬ (i < ((xs.length : Nat) : Int)) := of_decide_eq_false h3
   refine Rn 12 (.ex .ret) [] ⟨27, [(4, VB true)], []⟩ ?_
   refine Dg (.inl rfl) [.bool true] [] rfl (hG2) ?_
   have hl_ : xs.length = ys.length := by omega
   have h1_ := hi2
   rw [List.take_of_length_le (by omega), List.take_of_length_le (by omega)] at h1_
   exact ⟨congrArg Value.bool (by rw [eq_comm, decide_eq_true_iff]; exact h1_), rfl⟩
end Go.Proofs.YtjgpdbkkpomhjaaX
