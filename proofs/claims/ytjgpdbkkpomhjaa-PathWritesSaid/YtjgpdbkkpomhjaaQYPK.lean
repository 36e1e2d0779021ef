/- A part of a law's proof. Conditions: none. -/
import Derived.Test.YtjgpdbkkpomhjaaProg
import Derived.KernelRfl
import Derived.Test.YtjgpdbkkpomhjaaQYI3
import Derived.Test.YtjgpdbkkpomhjaaQYT
namespace Go.Proofs.YtjgpdbkkpomhjaaX
open Go.RowKit
open Go.Proofs.YtjgpdbkkpomhjaaW.PrintLast
set_option linter.unusedVariables false
set_option linter.unusedSimpArgs false
set_option maxRecDepth 100000
noncomputable def B56 : Code := bodyOf Try.f56
noncomputable def B116 : Code := bodyOf Try.f116
theorem band24u (x : Int) : band .u32 (IntKind.u32.wrap x) 16777215 = x % 16777216 := by
 rw [u32_wrap, show (16777215 : Int) = ((2 ^ 24 - 1 : Nat) : Int) by decide, band_low (k := .u32) (m := 24) rfl (by omega) (show _ < (2 : Int) ^ 32 by omega) (by decide), show ((2 : Int) ^ 24) = 16777216 by decide]
 omega
def cn (xs : List Int) (i : Int) (j : Nat) : Int := if (j : Int) < i ∧ j < xs.length then xs.getD j 0 else -1
def ct (k : Int) (xs : List Int) (j : Nat) : Int := if k = 172 then cn xs xs.length j else if k = 174 then cn xs xs.length (2 - j) else -1
theorem cn_step {xs : List Int} {i : Int} {j : Nat} (h0 : 0 ≤ i) (h : i ≠ (j : Int)) : cn xs (i + 1) j = cn xs i j := by
 unfold cn
 by_cases h1 : (j : Int) < i ∧ j < xs.length
 · rw [if_pos h1, if_pos ⟨by omega, h1.2⟩]
 · rw [if_neg h1, if_neg (by omega)]
theorem cn_now {xs : List Int} {i : Int} {j : Nat} (h : i = (j : Int)) (hl : j < xs.length) : cn xs (i + 1) j = xs.getD j 0 := by
 unfold cn
 rw [if_pos ⟨by omega, hl⟩]
theorem cn_none {xs : List Int} {j : Nat} : cn xs 0 j = -1 := by
 unfold cn
 rw [if_neg (by omega)]
noncomputable def B54 : Code := bodyOf Try.f54
set_option maxHeartbeats 1000000 in
theorem Counters_ok (k1 : Int) (A : Option Addr) (ca : Nat) (xs : List Int) (s1 : ByteArray) (G : Mem) (hx : rowAt (D.int .u32) G A xs) (hxc : xs.length ≤ ca) (hxm : ca ≤ maxLen) : CallsG Try.prog 54 [.agg #[.int .i64 k1, .slice A xs.length ca, .string s1]] G (fun _ v rows => v = .agg #[.int .i64 (ct k1 xs 0), .int .i64 (ct k1 xs 1), .int .i64 (ct k1 xs 2)] ∧ rows = []) := by
 simp only [maxLen] at hxm
 refine CallsG.enter Try.func54 rfl rfl ?_
 intro w
 refine Rn 20 (Qo B54 28 4) [Qs B54 29, Qs B54 15] ⟨41, [(1, .own 1 0), (2, .own 2 0), (3, .own 3 0), (10, VB (k1 != 172))], [(1, ⟨65, [I6 k1, VL A xs.length ca, VT s1]⟩), (2, ⟨70, [I6 0, I6 0, I6 0]⟩), (3, ⟨70, [I6 (-1), I6 (-1), I6 (-1)]⟩)]⟩ ?_
 refine Sn 10 rfl ?_ ?_ <;> intro h1
 ·
  refine Ra 6 (Qc B54 29) 1 [] [(14, VB (k1 != 174))] ?_
  refine Sn 14 rfl ?_ ?_ <;> intro h2
  ·
   refine Rn 9 (.ex .ret) [] ⟨41, [(2, .own 2 0)], [(2, ⟨70, [I6 (-1), I6 (-1), I6 (-1)]⟩)]⟩ ?_
   refine Dg (.inl rfl) [.agg #[N6 (-1), N6 (-1), N6 (-1)]] [] rfl (Ge.refl _ _) ?_
   exact ⟨by unfold ct; rw [if_neg (by assumption), if_neg (by assumption), if_neg (by assumption), if_neg (by assumption), if_neg (by assumption), if_neg (by assumption)]; rfl, rfl⟩
  ·
   refine Rn 13 (Qc B54 122) [.blk 0, Qs B54 31] _ (X.loopJ (fun m s R' G' => ∃ (i e_ f_ g_ : Int), s = ⟨41, [(1, .own 1 0), (2, .own 2 0), (3, .own 3 0), (17, VL A xs.length ca), (18, I6 (xs.length : Int)), (19, I6 i)], [(1, ⟨65, [I6 k1, VL A xs.length ca, VT s1]⟩), (2, ⟨70, [I6 0, I6 0, I6 0]⟩), (3, ⟨70, [I6 e_, I6 f_, I6 g_]⟩)]⟩ ∧ R' = [] ∧ G = G' ∧ (0 ≤ i ∧ i ≤ (xs.length : Int) ∧ e_ = cn xs i 0 ∧ f_ = cn xs i 1 ∧ g_ = cn xs i 2) ∧ m = ((xs.length : Int) - i).toNat) _ ⟨0, (-1), (-1), (-1), rfl, rfl, rfl, ⟨by omega, by omega, cn_none.symm, cn_none.symm, cn_none.symm⟩, rfl⟩ ?_)
   rintro m3 s3 R3 G3 ⟨i, e_, f_, g_, rfl, rfl, rfl, hF3, rfl⟩ J3 hJ3
   obtain ⟨hi0, hi1, he_, hf_, hg_⟩ := hF3
   refine Ra 6 (Qc B54 978) 0 [Qs B54 979] [(20, VB (decide (i < (xs.length : Int))))] ?_
   refine Sd 20 rfl ?_ ?_ <;> intro h4
   ·
    refine Ra 8 (Qo B54 7832 1) 1 [Qs B54 7833, .blk 1, Qs B54 1959] [(21, I6 i)] ?_
    refine Ix 63 29 1 A xs.length ca .i64 i (.tmp 17) (.tmp 19) (by omega) (by omega) (fun _ _ => rowAt.so hx (by omega)) ?_
    obtain ⟨at7, lo7, hi7⟩ := At.int [] hx ((i).toNat) (by omega)
    simp only [IntKind.lo, IntKind.hi] at lo7 hi7
    refine Ld 29 A ((i).toNat * 1) (.tmp 22) (N3 (xs.getD i.toNat 0)) [N3 (xs.getD i.toNat 0)] at7 ?_
    refine Ra 10 (Qc B54 15667) 1 [] [(4, I6 i), (5, I3 (xs.getD i.toNat 0)), (25, VB (decide (i < 3)))] ?_
    refine Sd 25 rfl ?_ ?_ <;> intro h8
    ·
     refine Rc 5 (Qo B54 31334 3) 0 [] [(26, I6 i), (28, I6 (IntKind.i64.wrap (xs.getD i.toNat 0)))] [4, 5] ?_
     have hcs9 : i = 0 ∨ i = 1 ∨ i = 2 := by omega
     rcases hcs9 with rfl | rfl | rfl
     ·
      exact Rn 9 (.ex .normal) [.loop J3, .blk 0, Qs B54 31] _ (X.again (hJ3 _ _ _ _ ⟨1, IntKind.i64.wrap (xs.getD (((0 : Int)).toNat) 0), f_, g_, rfl, rfl, rfl, ⟨by omega, by omega, by rw [show (1 : Int) = 0 + 1 from rfl, cn_now (i := 0) (j := 0) rfl (by omega)]; exact wi64 (by omega) (by omega), by rw [show (1 : Int) = 0 + 1 from rfl, cn_step (by omega) (by omega)]; assumption, by rw [show (1 : Int) = 0 + 1 from rfl, cn_step (by omega) (by omega)]; assumption⟩, rfl⟩ (by omega)))
     ·
      exact Rn 9 (.ex .normal) [.loop J3, .blk 0, Qs B54 31] _ (X.again (hJ3 _ _ _ _ ⟨2, e_, IntKind.i64.wrap (xs.getD (((1 : Int)).toNat) 0), g_, rfl, rfl, rfl, ⟨by omega, by omega, by rw [show (2 : Int) = 1 + 1 from rfl, cn_step (by omega) (by omega)]; assumption, by rw [show (2 : Int) = 1 + 1 from rfl, cn_now (i := 1) (j := 1) rfl (by omega)]; exact wi64 (by omega) (by omega), by rw [show (2 : Int) = 1 + 1 from rfl, cn_step (by omega) (by omega)]; assumption⟩, rfl⟩ (by omega)))
     ·
      exact Rn 9 (.ex .normal) [.loop J3, .blk 0, Qs B54 31] _ (X.again (hJ3 _ _ _ _ ⟨3, e_, f_, IntKind.i64.wrap (xs.getD (((2 : Int)).toNat) 0), rfl, rfl, rfl, ⟨by omega, by omega, by rw [show (3 : Int) = 2 + 1 from rfl, cn_step (by omega) (by omega)]; assumption, by rw [show (3 : Int) = 2 + 1 from rfl, cn_step (by omega) (by omega)]; assumption, by rw [show (3 : Int) = 2 + 1 from rfl, cn_now (i := 2) (j := 2) rfl (by omega)]; exact wi64 (by omega) (by omega)⟩, rfl⟩ (by omega)))
    ·
     have e1 : IntKind.i64.wrap (i + 1) = i + 1 := wi64 (by omega) (by omega)
     exact Rn 8 (.ex .normal) [.loop J3, .blk 0, Qs B54 31] _ (X.again (hJ3 _ _ _ _ ⟨IntKind.i64.wrap (i + 1), e_, f_, g_, rfl, rfl, rfl, ⟨by omega, by omega, by rw [e1, cn_step (by omega) (by omega)]; assumption, by rw [e1, cn_step (by omega) (by omega)]; assumption, by rw [e1, cn_step (by omega) (by omega)]; assumption⟩, rfl⟩ (by rw [e1]; omega)))
   ·
    refine Rb 14 (Qc B54 125) 4 [Qs B54 63] [(33, VB (k1 == 174))] [19] [] [1] ?_
    refine Se 33 rfl ?_ ?_ <;> intro h10
    ·
     refine Rn 19 (.ex .ret) [] ⟨41, [(2, .own 2 0)], [(2, ⟨70, [I6 g_, I6 f_, I6 e_]⟩)]⟩ ?_
     refine Dg (.inl rfl) [.agg #[N6 g_, N6 f_, N6 e_]] [] rfl (Ge.refl _ _) ?_
     have hi_ : i = (xs.length : Int) := by omega
     subst hi_
     subst he_; subst hf_; subst hg_
     exact ⟨by unfold ct; rw [show k1 = 174 by assumption]; rfl, rfl⟩
    ·
     refine Rn 10 (.ex .ret) [] ⟨41, [(2, .own 2 0)], [(2, ⟨70, [I6 e_, I6 f_, I6 g_]⟩)]⟩ ?_
     refine Dg (.inl rfl) [.agg #[N6 e_, N6 f_, N6 g_]] [] rfl (Ge.refl _ _) ?_
     have hi_ : i = (xs.length : Int) := by omega
     subst hi_
     subst he_; subst hf_; subst hg_
     exact ⟨by unfold ct; rw [if_pos (show k1 = 172 by omega), if_pos (show k1 = 172 by omega), if_pos (show k1 = 172 by omega)]; rfl, rfl⟩
 ·
  refine Rn 19 (Qc B54 122) [.blk 0, Qs B54 31] _ (X.loopJ (fun m s R' G' => ∃ (i e_ f_ g_ : Int), s = ⟨41, [(1, .own 1 0), (2, .own 2 0), (3, .own 3 0), (17, VL A xs.length ca), (18, I6 (xs.length : Int)), (19, I6 i)], [(1, ⟨65, [I6 k1, VL A xs.length ca, VT s1]⟩), (2, ⟨70, [I6 0, I6 0, I6 0]⟩), (3, ⟨70, [I6 e_, I6 f_, I6 g_]⟩)]⟩ ∧ R' = [] ∧ G = G' ∧ (0 ≤ i ∧ i ≤ (xs.length : Int) ∧ e_ = cn xs i 0 ∧ f_ = cn xs i 1 ∧ g_ = cn xs i 2) ∧ m = ((xs.length : Int) - i).toNat) _ ⟨0, (-1), (-1), (-1), rfl, rfl, rfl, ⟨by omega, by omega, cn_none.symm, cn_none.symm, cn_none.symm⟩, rfl⟩ ?_)
  rintro m11 s11 R11 G11 ⟨i, e_, f_, g_, rfl, rfl, rfl, hF11, rfl⟩ J11 hJ11
  obtain ⟨hi0, hi1, he_, hf_, hg_⟩ := hF11
  refine Ra 6 (Qc B54 978) 0 [Qs B54 979] [(20, VB (decide (i < (xs.length : Int))))] ?_
  refine Sd 20 rfl ?_ ?_ <;> intro h12
  ·
   refine Ra 8 (Qo B54 7832 1) 1 [Qs B54 7833, .blk 1, Qs B54 1959] [(21, I6 i)] ?_
   refine Ix 63 29 1 A xs.length ca .i64 i (.tmp 17) (.tmp 19) (by omega) (by omega) (fun _ _ => rowAt.so hx (by omega)) ?_
   obtain ⟨at15, lo15, hi15⟩ := At.int [] hx ((i).toNat) (by omega)
   simp only [IntKind.lo, IntKind.hi] at lo15 hi15
   refine Ld 29 A ((i).toNat * 1) (.tmp 22) (N3 (xs.getD i.toNat 0)) [N3 (xs.getD i.toNat 0)] at15 ?_
   refine Ra 10 (Qc B54 15667) 1 [] [(4, I6 i), (5, I3 (xs.getD i.toNat 0)), (25, VB (decide (i < 3)))] ?_
   refine Sd 25 rfl ?_ ?_ <;> intro h16
   ·
    refine Rc 5 (Qo B54 31334 3) 0 [] [(26, I6 i), (28, I6 (IntKind.i64.wrap (xs.getD i.toNat 0)))] [4, 5] ?_
    have hcs17 : i = 0 ∨ i = 1 ∨ i = 2 := by omega
    rcases hcs17 with rfl | rfl | rfl
    ·
     exact Rn 9 (.ex .normal) [.loop J11, .blk 0, Qs B54 31] _ (X.again (hJ11 _ _ _ _ ⟨1, IntKind.i64.wrap (xs.getD (((0 : Int)).toNat) 0), f_, g_, rfl, rfl, rfl, ⟨by omega, by omega, by rw [show (1 : Int) = 0 + 1 from rfl, cn_now (i := 0) (j := 0) rfl (by omega)]; exact wi64 (by omega) (by omega), by rw [show (1 : Int) = 0 + 1 from rfl, cn_step (by omega) (by omega)]; assumption, by rw [show (1 : Int) = 0 + 1 from rfl, cn_step (by omega) (by omega)]; assumption⟩, rfl⟩ (by omega)))
    ·
     exact Rn 9 (.ex .normal) [.loop J11, .blk 0, Qs B54 31] _ (X.again (hJ11 _ _ _ _ ⟨2, e_, IntKind.i64.wrap (xs.getD (((1 : Int)).toNat) 0), g_, rfl, rfl, rfl, ⟨by omega, by omega, by rw [show (2 : Int) = 1 + 1 from rfl, cn_step (by omega) (by omega)]; assumption, by rw [show (2 : Int) = 1 + 1 from rfl, cn_now (i := 1) (j := 1) rfl (by omega)]; exact wi64 (by omega) (by omega), by rw [show (2 : Int) = 1 + 1 from rfl, cn_step (by omega) (by omega)]; assumption⟩, rfl⟩ (by omega)))
    ·
     exact Rn 9 (.ex .normal) [.loop J11, .blk 0, Qs B54 31] _ (X.again (hJ11 _ _ _ _ ⟨3, e_, f_, IntKind.i64.wrap (xs.getD (((2 : Int)).toNat) 0), rfl, rfl, rfl, ⟨by omega, by omega, by rw [show (3 : Int) = 2 + 1 from rfl, cn_step (by omega) (by omega)]; assumption, by rw [show (3 : Int) = 2 + 1 from rfl, cn_step (by omega) (by omega)]; assumption, by rw [show (3 : Int) = 2 + 1 from rfl, cn_now (i := 2) (j := 2) rfl (by omega)]; exact wi64 (by omega) (by omega)⟩, rfl⟩ (by omega)))
   ·
    have e1 : IntKind.i64.wrap (i + 1) = i + 1 := wi64 (by omega) (by omega)
    exact Rn 8 (.ex .normal) [.loop J11, .blk 0, Qs B54 31] _ (X.again (hJ11 _ _ _ _ ⟨IntKind.i64.wrap (i + 1), e_, f_, g_, rfl, rfl, rfl, ⟨by omega, by omega, by rw [e1, cn_step (by omega) (by omega)]; assumption, by rw [e1, cn_step (by omega) (by omega)]; assumption, by rw [e1, cn_step (by omega) (by omega)]; assumption⟩, rfl⟩ (by rw [e1]; omega)))
  ·
   refine Rb 14 (Qc B54 125) 4 [Qs B54 63] [(33, VB (k1 == 174))] [19] [] [1] ?_
   refine Se 33 rfl ?_ ?_ <;> intro h18
   ·
    refine Rn 19 (.ex .ret) [] ⟨41, [(2, .own 2 0)], [(2, ⟨70, [I6 g_, I6 f_, I6 e_]⟩)]⟩ ?_
    refine Dg (.inl rfl) [.agg #[N6 g_, N6 f_, N6 e_]] [] rfl (Ge.refl _ _) ?_
    have hi_ : i = (xs.length : Int) := by omega
    subst hi_
    subst he_; subst hf_; subst hg_
    exact ⟨by unfold ct; rw [show k1 = 174 by assumption]; rfl, rfl⟩
   ·
    refine Rn 10 (.ex .ret) [] ⟨41, [(2, .own 2 0)], [(2, ⟨70, [I6 e_, I6 f_, I6 g_]⟩)]⟩ ?_
    refine Dg (.inl rfl) [.agg #[N6 e_, N6 f_, N6 g_]] [] rfl (Ge.refl _ _) ?_
    have hi_ : i = (xs.length : Int) := by omega
    subst hi_
    subst he_; subst hf_; subst hg_
    exact ⟨by unfold ct; rw [if_pos (show k1 = 172 by omega), if_pos (show k1 = 172 by omega), if_pos (show k1 = 172 by omega)]; rfl, rfl⟩
def al (k x y z m : Int) : List Int := ((if k = 174 then [z, y, x] else [x, y, z]).take (max 0 (min m 3)).toNat).map (fun n => n % 16777216)
def ak (k : Int) : Int := if k = 174 then 174 else 172
set_option maxHeartbeats 1000000 in
theorem Acc_ok (k x y z m : Int) (hx : (-9223372036854775808 ≤ x ∧ x ≤ 9223372036854775807)) (hy : (-9223372036854775808 ≤ y ∧ y ≤ 9223372036854775807)) (hz : (-9223372036854775808 ≤ z ∧ z ≤ 9223372036854775807)) (hm : (-9223372036854775808 ≤ m ∧ m ≤ 9223372036854775807)) (G : Mem) : CallsG Try.prog 56 [.int .i64 k, .int .i64 x, .int .i64 y, .int .i64 z, .int .i64 m] G (fun _ v rows => ∃ A' c', v = .agg #[.int .i64 (ak k), .slice A' (al k x y z m).length c', .string ⟨#[]⟩] ∧ (al k x y z m).length ≤ c' ∧ rows = [⟨29, 1, .slice A' (al k x y z m).length c', (al k x y z m).length, (al k x y z m).map (Value.int .u32)⟩]) := by
 obtain ⟨q_, hq_⟩ : ∃ q_ : Int, imax 0 (min m 3) = q_ := ⟨_, rfl⟩
 have hq2_ : max 0 (min m 3) = q_ := by rw [← imax_eq]; exact hq_
 refine CallsG.enter Try.func56 rfl rfl ?_
 intro w
 refine Rn 17 (Qo B56 14 3) [Qs B56 15] ⟨47, [(0, I6 k), (4, I6 m), (10, .own 10 0), (11, .own 11 0), (16, I6 x), (17, I6 y), (18, I6 z)], [(10, ⟨65, [I6 0, VL none 0 0, VT ByteArray.empty]⟩), (11, ⟨65, [I6 172, VL none 0 0, VT ByteArray.empty]⟩)]⟩ ?_
 refine Lt 19 2 1 3 [N6 x, N6 y, N6 z] ?_
 intro A1
 refine Ra 10 (Qc B56 61) 1 [Qs B56 31] [(12, VL A1 3 3), (21, VB (k == 174))] ?_
 refine Se 21 rfl ?_ ?_ <;> intro h2
 ·
  refine Rb 9 (Qo B56 245 1) 0 [] [(23, VL A1 3 3)] [] [(11, ⟨65, [I6 174, VL none 0 0, VT ByteArray.empty]⟩)] [] ?_
  refine X.inline (f := 116) (l := [VL A1 3 3]) (fn := Try.f116) (c := B116) (by kernel_rfl) (by kernel_rfl) Try.func116 (by kernel_rfl) ?_
  intro Q3 M3 hM3 hQ3 fin3
  refine Ra 10 (Qc B116 6) 0 [.blk 0] [(2, I6 0), (3, I6 2)] ?_
  refine X.rounds 3 ?_
  refine RX.succ fun J4 hJ4 => ?_
  refine Rn 13 (Qc B116 100) [.blk 1, Qs B116 51, .loop J4, .blk 0] ⟨28, [(0, VL A1 3 3), (2, I6 0), (3, I6 2), (7, I6 0), (8, I6 2), (9, VB true)], [(1010, ⟨65, [I6 0, VL none 0 0, VT ByteArray.empty]⟩), (1011, ⟨65, [I6 174, VL none 0 0, VT ByteArray.empty]⟩)]⟩ ?_
  refine Oh 3 B116 100 16 [] [(19, RR 2 1 A1 3 3 [N6 x, N6 y, N6 z])] [13, 14, 15] trivial Mt (fun ρ0 => ?_)
  refine Tk 0 16 1 B116 100 (VL A1 3 3) hQ3 ?_
  refine Tk 1 16 3 B116 100 (I6 0) hQ3 ?_
  refine XD.pureMove (i := 2) (l' := (lb 16 7)) (x := .tmp 0) (oA B116 (pa 100) 2) (VL A1 3 3) hQ3 (by kernel_rfl) (by kernel_rfl) (by kernel_rfl) (by kernel_rfl) (by kernel_rfl) (by kernel_rfl) ?_
  refine XD.pureMove (i := 3) (l' := (lb 16 15)) (x := .tmp 3) (oA B116 (pa 100) 3) (I6 2) hQ3 (by kernel_rfl) (by kernel_rfl) (by kernel_rfl) (by kernel_rfl) (by kernel_rfl) (by kernel_rfl) ?_
  refine Tk 4 16 31 B116 100 (VL A1 3 3) hQ3 ?_
  refine Tk 5 16 63 B116 100 (I6 2) hQ3 ?_
  have b6 : (0 : Int) ≤ 2 := by omega
  have b7 : 2 < ((3 : Nat) : Int) := by omega
  have at8 : At G [(19, ⟨2, 1, .slice A1 3 3, 3, [.int .i64 x, .int .i64 y, .int .i64 z]⟩)] A1 (2 * 1) [.int .i64 z] := (At.of_row (i := 19) (r := ⟨2, 1, .slice A1 3 3, 3, [.int .i64 x, .int .i64 y, .int .i64 z]⟩) rfl rfl).part 2 1
  refine Dx 6 16 127 B116 100 157 2 1 A1 3 3 .i64 2 (.tmp 18) (.tmp 19) hQ3 b6 b7 (rowSome (i := 19) (q := (RR 2 1 A1 3 3 [N6 x, N6 y, N6 z])) rfl rfl (Nat.succ_pos _)) ?_
  refine Dl 7 16 255 B116 100 2 A1 (2 * 1) (.tmp 20) (N6 z) [N6 z] hQ3 at8 ?_
  refine Tk 8 16 511 B116 100 (VL A1 3 3) hQ3 ?_
  refine Tk 9 16 1023 B116 100 (I6 0) hQ3 ?_
  have b9 : (0 : Int) ≤ 0 := by omega
  have b10 : 0 < ((3 : Nat) : Int) := by omega
  have at11 : At G [(19, ⟨2, 1, .slice A1 3 3, 3, [.int .i64 x, .int .i64 y, .int .i64 z]⟩)] A1 (0 * 1) [.int .i64 x] := (At.of_row (i := 19) (r := ⟨2, 1, .slice A1 3 3, 3, [.int .i64 x, .int .i64 y, .int .i64 z]⟩) rfl rfl).part 0 1
  refine Dx 10 16 2047 B116 100 157 2 1 A1 3 3 .i64 0 (.tmp 22) (.tmp 23) hQ3 b9 b10 (rowSome (i := 19) (q := (RR 2 1 A1 3 3 [N6 x, N6 y, N6 z])) rfl rfl (Nat.succ_pos _)) ?_
  refine Dl 11 16 4095 B116 100 2 A1 (0 * 1) (.tmp 24) (N6 x) [N6 x] hQ3 at11 ?_
  have b12 : (0 : Int) ≤ 0 := by omega
  have b13 : 0 < ((3 : Nat) : Int) := by omega
  have at14 : At G [(19, ⟨2, 1, .slice A1 3 3, 3, [.int .i64 x, .int .i64 y, .int .i64 z]⟩)] A1 (0 * 1) [.int .i64 x] := (At.of_row (i := 19) (r := ⟨2, 1, .slice A1 3 3, 3, [.int .i64 x, .int .i64 y, .int .i64 z]⟩) rfl rfl).part 0 1
  refine Dx 12 16 8191 B116 100 157 2 1 A1 3 3 .i64 0 (.tmp 14) (.tmp 15) hQ3 b12 b13 (rowSome (i := 19) (q := (RR 2 1 A1 3 3 [N6 x, N6 y, N6 z])) rfl rfl (Nat.succ_pos _)) ?_
  refine XD.toE ?_
  refine En ⟨28, [(0, VL A1 3 3), (2, I6 0), (3, I6 2), (7, I6 0), (8, I6 2), (9, VB true), (14, VL A1 3 3), (15, I6 0), (16, VL A1 3 3), (17, I6 2), (18, VL A1 3 3), (19, I6 2), (20, .v (elt A1 (2 * 1))), (21, I6 z), (22, VL A1 3 3), (23, I6 0), (24, .v (elt A1 (0 * 1))), (25, I6 x), (26, .v (elt A1 (0 * 1)))], [(1010, ⟨65, [I6 0, VL none 0 0, VT ByteArray.empty]⟩), (1011, ⟨65, [I6 174, VL none 0 0, VT ByteArray.empty]⟩)]⟩ ?_
  refine Eo 13 16 16383 B116 100 ?_
  refine X.storeElem (i := 19) (t := 2) (j := 0 * 1) (n := 3) (c := 3) (q := (RR 2 1 A1 3 3 [N6 x, N6 y, N6 z])) (A := A1) (x := .tmp 26) (y := .tmp 21) (z := N6 z) (by kernel_rfl) (by kernel_rfl) (by kernel_rfl) rfl rfl (by kernel_rfl) (Nat.le_of_ble_eq_true rfl) (by kernel_rfl) (Nat.succ_pos _) (by kernel_rfl) ?_
  refine Tr [19] ?_
  refine X.back ?_
  refine En ⟨28, [(0, VL A1 3 3), (2, I6 0), (3, I6 2), (7, I6 0), (8, I6 2), (9, VB true), (14, VL A1 3 3), (15, I6 0), (16, VL A1 3 3), (17, I6 2), (18, VL A1 3 3), (19, I6 2), (20, .v (elt A1 (2 * 1))), (21, I6 z), (22, VL A1 3 3), (23, I6 0), (24, .v (elt A1 (0 * 1))), (25, I6 x), (26, .v (elt A1 (0 * 1)))], [(1010, ⟨65, [I6 0, VL none 0 0, VT ByteArray.empty]⟩), (1011, ⟨65, [I6 174, VL none 0 0, VT ByteArray.empty]⟩)]⟩ ?_
  refine Eo 14 16 32767 B116 100 ?_
  refine Ix 157 2 1 A1 3 3 .i64 2 (.tmp 16) (.tmp 17) (by omega) (by omega) (Bs 19 rfl) ?_
  have at17 : At G [(19, ⟨2, 1, .slice A1 3 3, 3, [.int .i64 z, .int .i64 y, .int .i64 z]⟩)] A1 (2 * 1) [.int .i64 z] := (At.of_row (i := 19) (r := ⟨2, 1, .slice A1 3 3, 3, [.int .i64 z, .int .i64 y, .int .i64 z]⟩) rfl rfl).part 2 1
  refine X.back ?_
  refine En ⟨28, [(0, VL A1 3 3), (2, I6 0), (3, I6 2), (7, I6 0), (8, I6 2), (9, VB true), (14, VL A1 3 3), (15, I6 0), (16, VL A1 3 3), (17, I6 2), (18, VL A1 3 3), (19, I6 2), (20, .v (elt A1 (2 * 1))), (21, I6 z), (22, VL A1 3 3), (23, I6 0), (24, .v (elt A1 (0 * 1))), (25, I6 x), (26, .v (elt A1 (0 * 1))), (27, .v (elt A1 (2 * 1)))], [(1010, ⟨65, [I6 0, VL none 0 0, VT ByteArray.empty]⟩), (1011, ⟨65, [I6 174, VL none 0 0, VT ByteArray.empty]⟩)]⟩ ?_
  refine Eo 15 16 65535 B116 100 ?_
  refine X.storeElem (i := 19) (t := 2) (j := 2 * 1) (n := 3) (c := 3) (q := (RR 2 1 A1 3 3 [N6 z, N6 y, N6 z])) (A := A1) (x := .tmp 27) (y := .tmp 25) (z := N6 x) (by kernel_rfl) (by kernel_rfl) (by kernel_rfl) rfl rfl (by kernel_rfl) (Nat.le_of_ble_eq_true rfl) (by kernel_rfl) (Nat.succ_pos _) (by kernel_rfl) ?_
  refine Tr [19] ?_
  refine X.back ?_
  refine XE.done (by kernel_rfl) ?_
  refine Rn 10 (.ex .normal) [.loop J4, .blk 0] ⟨28, [(0, VL A1 3 3), (2, I6 1), (3, I6 1), (7, I6 0), (8, I6 2), (9, VB true), (10, I6 0), (11, I6 1), (12, I6 2), (13, I6 1), (14, VL A1 3 3), (15, I6 0), (16, VL A1 3 3), (17, I6 2), (18, VL A1 3 3), (19, I6 2), (20, .v (elt A1 (2 * 1))), (21, I6 z), (22, VL A1 3 3), (23, I6 0), (24, .v (elt A1 (0 * 1))), (25, I6 x), (26, .v (elt A1 (0 * 1))), (27, .v (elt A1 (2 * 1)))], [(1010, ⟨65, [I6 0, VL none 0 0, VT ByteArray.empty]⟩), (1011, ⟨65, [I6 174, VL none 0 0, VT ByteArray.empty]⟩)]⟩ ?_
  refine X.again (hJ4 _ _ _ ?_)
  refine RX.succ fun J18 hJ18 => ?_
  refine Rn 13 (.ex .normal) [] ⟨28, [], [(1010, ⟨65, [I6 0, VL none 0 0, VT ByteArray.empty]⟩), (1011, ⟨65, [I6 174, VL none 0 0, VT ByteArray.empty]⟩)]⟩ ?_
  refine fin3 _ _ _ _ [] [(10, ⟨65, [I6 0, VL none 0 0, VT ByteArray.empty]⟩), (11, ⟨65, [I6 174, VL none 0 0, VT ByteArray.empty]⟩)] (.inr rfl) (by kernel_rfl) (by kernel_rfl) ?_
  refine Rc 10 (Qo B56 124 5) 1 [Qs B56 125, Qs B56 63] [(25, VL A1 3 3), (29, I6 (imin m 3))] [12] ?_
  refine Kn 29 .i64 (min m 3) rfl (by simp only [imin_eq, imax_eq]) ?_
  refine Ra 1 (Qo B56 124 6) 0 [] [(30, I6 (imax 0 (min m 3)))] ?_
  refine Kn 30 .i64 q_ rfl (hq_) ?_
  have hcs19 : q_ = 0 ∨ q_ = 1 ∨ q_ = 2 ∨ q_ = 3 := by omega
  rcases hcs19 with rfl | rfl | rfl | rfl
  ·
   have hlo20 : 0 ≤ 0 := by omega
   have hhi20 : 0 ≤ 3 := by omega
   refine X.cut (t := 157) (e := 2) (sz := 1) (n := 3) (c := 3) (A := A1) (x := .tmp 25) (l := none) (h := (some (.tmp 30))) (lv := none) (hv := (some (N6 0))) 0 0 (by kernel_rfl) (by kernel_rfl) (by kernel_rfl) (by kernel_rfl) (by kernel_rfl) (by kernel_rfl) (by kernel_rfl) (rfl) (⟨_, _, rfl, by omega, rfl⟩) hlo20 (Nat.le_trans hhi20 (by omega)) ?_
   refine X.known 31 (y := VL A1 0 3) rfl (by rw [cutA_zero] <;> rfl) ?_
   refine Ra 5 (Qc B56 250) 1 [.blk 0] [(31, VL A1 0 3), (32, I6 0), (33, I6 0)] ?_
   refine X.rounds 5 ?_
   refine RX.succ fun J21 hJ21 => ?_
   refine Rn 19 (.ex .ret) [] ⟨47, [(10, .own 10 0)], [(10, ⟨65, [I6 174, VL none 0 0, VT ByteArray.empty]⟩)]⟩ ?_
   refine X.nilRow 900 29 1 rfl ?_
   refine Dg (.inl rfl) [.agg #[N6 174, .slice none 0 0, .string ByteArray.empty]] [900] rfl (Ge.refl _ _) ?_
   have hn_ : (max 0 (min m 3)).toNat = 0 := by omega
   have hk_ : k = 174 := by first | assumption | omega
   have hal_ : al k x y z m = [] := by unfold al; rw [hn_, if_pos hk_]; rfl
   have hak_ : ak k = 174 := by unfold ak; rw [if_pos hk_]
   rw [hal_, hak_]
   exact ⟨_, _, rfl, by first | assumption | decide, rfl⟩
  ·
   have hlo22 : 0 ≤ 1 := by omega
   have hhi22 : 1 ≤ 3 := by omega
   refine X.cut (t := 157) (e := 2) (sz := 1) (n := 3) (c := 3) (A := A1) (x := .tmp 25) (l := none) (h := (some (.tmp 30))) (lv := none) (hv := (some (N6 1))) 0 1 (by kernel_rfl) (by kernel_rfl) (by kernel_rfl) (by kernel_rfl) (by kernel_rfl) (by kernel_rfl) (by kernel_rfl) (rfl) (⟨_, _, rfl, by omega, rfl⟩) hlo22 (Nat.le_trans hhi22 (by omega)) ?_
   refine X.known 31 (y := VL A1 1 3) rfl (by rw [cutA_zero] <;> rfl) ?_
   refine Ra 5 (Qc B56 250) 1 [.blk 0] [(31, VL A1 1 3), (32, I6 1), (33, I6 0)] ?_
   refine X.rounds 5 ?_
   refine RX.succ fun J23 hJ23 => ?_
   refine Rn 13 (Qo B56 16024 0) [Qs B56 16025, .blk 1, Qs B56 4007, .loop J23, .blk 0, Qs B56 63] ⟨47, [(10, .own 10 0), (11, .own 11 0), (31, VL A1 1 3), (32, I6 1), (33, I6 0), (34, VB true)], [(10, ⟨65, [I6 0, VL none 0 0, VT ByteArray.empty]⟩), (11, ⟨65, [I6 174, VL none 0 0, VT ByteArray.empty]⟩)]⟩ ?_
   refine Ix 157 2 1 A1 1 3 .i64 0 (.tmp 31) (.tmp 33) (by omega) (by omega) (Bs 19 rfl) ?_
   have at26 : At G [(19, ⟨2, 1, .slice A1 3 3, 3, [.int .i64 z, .int .i64 y, .int .i64 x]⟩)] A1 (0 * 1) [.int .i64 z] := (At.of_row (i := 19) (r := ⟨2, 1, .slice A1 3 3, 3, [.int .i64 z, .int .i64 y, .int .i64 x]⟩) rfl rfl).part 0 1
   refine Ld 2 A1 (0 * 1) (.tmp 35) (N6 z) [N6 z] at26 ?_
   refine Ra 9 (Qo B56 16025 5) 1 [] [(14, I6 z), (35, .v (elt A1 (0 * 1))), (36, I6 z), (37, .own 11 1), (38, VL none 0 0), (39, I6 z), (40, I3 (IntKind.u32.wrap z)), (41, I3 (band .u32 (IntKind.u32.wrap z) 16777215))] ?_
   refine Kn 41 .u32 (z % 16777216) rfl (band24u z) ?_
   refine Lt 42 29 1 1 [N3 (z % 16777216)] ?_
   intro A27
   refine Ap 43 (RR 29 1 none 0 0 []) 63 4 (N3 0) (.tmp 38) (.tmp 42) 0 0 1 1 none A27 [N3 (z % 16777216)] (.inr ⟨rfl, rfl, rfl, rfl⟩) (by kernel_rfl) (Ar 42 rfl) (Br 42 rfl) (ones (by kernel_rfl)) (by decide) ?_
   intro A28 c28 hc28
   refine Tr [43, 42, 19] ?_
   refine Rn 9 (.ex .normal) [.loop J23, .blk 0, Qs B56 63] ⟨47, [(10, .own 10 0), (11, .own 11 0), (14, I6 z), (31, VL A1 1 3), (32, I6 1), (33, I6 1), (34, VB true), (35, .v (elt A1 (0 * 1))), (36, I6 z), (37, .own 11 1), (38, VL none 0 0), (39, I6 z), (40, I3 (IntKind.u32.wrap z)), (41, I3 (z % 16777216)), (42, VL A27 1 1), (43, VL A28 1 c28), (44, .own 11 1), (45, I6 1)], [(10, ⟨65, [I6 0, VL none 0 0, VT ByteArray.empty]⟩), (11, ⟨65, [I6 174, VL A28 1 c28, VT ByteArray.empty]⟩)]⟩ ?_
   refine X.again (hJ23 _ _ _ ?_)
   refine RX.succ fun J29 hJ29 => ?_
   refine Rn 19 (.ex .ret) [] ⟨47, [(10, .own 10 0)], [(10, ⟨65, [I6 174, VL A28 1 c28, VT ByteArray.empty]⟩)]⟩ ?_
   refine Dg (.inl rfl) [.agg #[N6 174, .slice A28 1 c28, .string ByteArray.empty]] [43] rfl (Ge.refl _ _) ?_
   have hn_ : (max 0 (min m 3)).toNat = 1 := by omega
   have hk_ : k = 174 := by first | assumption | omega
   have hal_ : al k x y z m = [z % 16777216] := by unfold al; rw [hn_, if_pos hk_]; rfl
   have hak_ : ak k = 174 := by unfold ak; rw [if_pos hk_]
   rw [hal_, hak_]
   exact ⟨_, _, rfl, by first | assumption | decide, rfl⟩
  ·
   have hlo30 : 0 ≤ 2 := by omega
   have hhi30 : 2 ≤ 3 := by omega
   refine X.cut (t := 157) (e := 2) (sz := 1) (n := 3) (c := 3) (A := A1) (x := .tmp 25) (l := none) (h := (some (.tmp 30))) (lv := none) (hv := (some (N6 2))) 0 2 (by kernel_rfl) (by kernel_rfl) (by kernel_rfl) (by kernel_rfl) (by kernel_rfl) (by kernel_rfl) (by kernel_rfl) (rfl) (⟨_, _, rfl, by omega, rfl⟩) hlo30 (Nat.le_trans hhi30 (by omega)) ?_
   refine X.known 31 (y := VL A1 2 3) rfl (by rw [cutA_zero] <;> rfl) ?_
   refine Ra 5 (Qc B56 250) 1 [.blk 0] [(31, VL A1 2 3), (32, I6 2), (33, I6 0)] ?_
   refine X.rounds 5 ?_
   refine RX.succ fun J31 hJ31 => ?_
   refine Rn 13 (Qo B56 16024 0) [Qs B56 16025, .blk 1, Qs B56 4007, .loop J31, .blk 0, Qs B56 63] ⟨47, [(10, .own 10 0), (11, .own 11 0), (31, VL A1 2 3), (32, I6 2), (33, I6 0), (34, VB true)], [(10, ⟨65, [I6 0, VL none 0 0, VT ByteArray.empty]⟩), (11, ⟨65, [I6 174, VL none 0 0, VT ByteArray.empty]⟩)]⟩ ?_
   refine Ix 157 2 1 A1 2 3 .i64 0 (.tmp 31) (.tmp 33) (by omega) (by omega) (Bs 19 rfl) ?_
   have at34 : At G [(19, ⟨2, 1, .slice A1 3 3, 3, [.int .i64 z, .int .i64 y, .int .i64 x]⟩)] A1 (0 * 1) [.int .i64 z] := (At.of_row (i := 19) (r := ⟨2, 1, .slice A1 3 3, 3, [.int .i64 z, .int .i64 y, .int .i64 x]⟩) rfl rfl).part 0 1
   refine Ld 2 A1 (0 * 1) (.tmp 35) (N6 z) [N6 z] at34 ?_
   refine Ra 9 (Qo B56 16025 5) 1 [] [(14, I6 z), (35, .v (elt A1 (0 * 1))), (36, I6 z), (37, .own 11 1), (38, VL none 0 0), (39, I6 z), (40, I3 (IntKind.u32.wrap z)), (41, I3 (band .u32 (IntKind.u32.wrap z) 16777215))] ?_
   refine Kn 41 .u32 (z % 16777216) rfl (band24u z) ?_
   refine Lt 42 29 1 1 [N3 (z % 16777216)] ?_
   intro A35
   refine Ap 43 (RR 29 1 none 0 0 []) 63 4 (N3 0) (.tmp 38) (.tmp 42) 0 0 1 1 none A35 [N3 (z % 16777216)] (.inr ⟨rfl, rfl, rfl, rfl⟩) (by kernel_rfl) (Ar 42 rfl) (Br 42 rfl) (ones (by kernel_rfl)) (by decide) ?_
   intro A36 c36 hc36
   refine Tr [43, 42, 19] ?_
   refine Rn 9 (.ex .normal) [.loop J31, .blk 0, Qs B56 63] ⟨47, [(10, .own 10 0), (11, .own 11 0), (14, I6 z), (31, VL A1 2 3), (32, I6 2), (33, I6 1), (34, VB true), (35, .v (elt A1 (0 * 1))), (36, I6 z), (37, .own 11 1), (38, VL none 0 0), (39, I6 z), (40, I3 (IntKind.u32.wrap z)), (41, I3 (z % 16777216)), (42, VL A35 1 1), (43, VL A36 1 c36), (44, .own 11 1), (45, I6 1)], [(10, ⟨65, [I6 0, VL none 0 0, VT ByteArray.empty]⟩), (11, ⟨65, [I6 174, VL A36 1 c36, VT ByteArray.empty]⟩)]⟩ ?_
   refine X.again (hJ31 _ _ _ ?_)
   refine RX.succ fun J37 hJ37 => ?_
   refine Rn 13 (Qo B56 16024 0) [Qs B56 16025, .blk 1, Qs B56 4007, .loop J37, .blk 0, Qs B56 63] ⟨47, [(10, .own 10 0), (11, .own 11 0), (14, I6 z), (31, VL A1 2 3), (32, I6 2), (33, I6 1), (34, VB true), (35, .v (elt A1 (0 * 1))), (36, I6 z), (37, .own 11 1), (38, VL none 0 0), (39, I6 z), (40, I3 (IntKind.u32.wrap z)), (41, I3 (z % 16777216)), (42, VL A35 1 1), (43, VL A36 1 c36), (44, .own 11 1), (45, I6 1)], [(10, ⟨65, [I6 0, VL none 0 0, VT ByteArray.empty]⟩), (11, ⟨65, [I6 174, VL A36 1 c36, VT ByteArray.empty]⟩)]⟩ ?_
   refine Ix 157 2 1 A1 2 3 .i64 1 (.tmp 31) (.tmp 33) (by omega) (by omega) (Bs 19 rfl) ?_
   have at40 : At G [(43, ⟨29, 1, .slice A36 1 c36, 1, [.int .u32 (z % 16777216)]⟩), (42, ⟨29, 1, .slice A35 1 1, 1, [.int .u32 (z % 16777216)]⟩), (19, ⟨2, 1, .slice A1 3 3, 3, [.int .i64 z, .int .i64 y, .int .i64 x]⟩)] A1 (1 * 1) [.int .i64 y] := (At.of_row (i := 19) (r := ⟨2, 1, .slice A1 3 3, 3, [.int .i64 z, .int .i64 y, .int .i64 x]⟩) rfl rfl).part 1 1
   refine Ld 2 A1 (1 * 1) (.tmp 35) (N6 y) [N6 y] at40 ?_
   refine Ra 9 (Qo B56 16025 5) 1 [] [(14, I6 y), (35, .v (elt A1 (1 * 1))), (36, I6 y), (38, VL A36 1 c36), (39, I6 y), (40, I3 (IntKind.u32.wrap y)), (41, I3 (band .u32 (IntKind.u32.wrap y) 16777215))] ?_
   refine Kn 41 .u32 (y % 16777216) rfl (band24u y) ?_
   refine Lt 42 29 1 1 [N3 (y % 16777216)] ?_
   intro A41
   refine Ap 43 _ 63 4 (N3 0) (.tmp 38) (.tmp 42) 1 c36 1 1 A36 A41 [N3 (y % 16777216)] (.inl rfl) (by kernel_rfl) (Ar 42 rfl) (Br 42 rfl) (ones (by kernel_rfl)) (by decide) ?_
   intro A42 c42 hc42
   refine Tr [43, 42, 19] ?_
   refine Rn 9 (.ex .normal) [.loop J37, .blk 0, Qs B56 63] ⟨47, [(10, .own 10 0), (11, .own 11 0), (14, I6 y), (31, VL A1 2 3), (32, I6 2), (33, I6 2), (34, VB true), (35, .v (elt A1 (1 * 1))), (36, I6 y), (37, .own 11 1), (38, VL A36 1 c36), (39, I6 y), (40, I3 (IntKind.u32.wrap y)), (41, I3 (y % 16777216)), (42, VL A41 1 1), (43, VL A42 2 c42), (44, .own 11 1), (45, I6 2)], [(10, ⟨65, [I6 0, VL none 0 0, VT ByteArray.empty]⟩), (11, ⟨65, [I6 174, VL A42 2 c42, VT ByteArray.empty]⟩)]⟩ ?_
   refine X.again (hJ37 _ _ _ ?_)
   refine RX.succ fun J43 hJ43 => ?_
   refine Rn 19 (.ex .ret) [] ⟨47, [(10, .own 10 0)], [(10, ⟨65, [I6 174, VL A42 2 c42, VT ByteArray.empty]⟩)]⟩ ?_
   refine Dg (.inl rfl) [.agg #[N6 174, .slice A42 2 c42, .string ByteArray.empty]] [43] rfl (Ge.refl _ _) ?_
   have hn_ : (max 0 (min m 3)).toNat = 2 := by omega
   have hk_ : k = 174 := by first | assumption | omega
   have hal_ : al k x y z m = [z % 16777216, y % 16777216] := by unfold al; rw [hn_, if_pos hk_]; rfl
   have hak_ : ak k = 174 := by unfold ak; rw [if_pos hk_]
   rw [hal_, hak_]
   exact ⟨_, _, rfl, by first | assumption | decide, rfl⟩
  ·
   have hlo44 : 0 ≤ 3 := by omega
   have hhi44 : 3 ≤ 3 := by omega
   refine X.cut (t := 157) (e := 2) (sz := 1) (n := 3) (c := 3) (A := A1) (x := .tmp 25) (l := none) (h := (some (.tmp 30))) (lv := none) (hv := (some (N6 3))) 0 3 (by kernel_rfl) (by kernel_rfl) (by kernel_rfl) (by kernel_rfl) (by kernel_rfl) (by kernel_rfl) (by kernel_rfl) (rfl) (⟨_, _, rfl, by omega, rfl⟩) hlo44 (Nat.le_trans hhi44 (by omega)) ?_
   refine X.known 31 (y := VL A1 3 3) rfl (by rw [cutA_zero] <;> rfl) ?_
   refine Ra 5 (Qc B56 250) 1 [.blk 0] [(31, VL A1 3 3), (32, I6 3), (33, I6 0)] ?_
   refine X.rounds 5 ?_
   refine RX.succ fun J45 hJ45 => ?_
   refine Rn 13 (Qo B56 16024 0) [Qs B56 16025, .blk 1, Qs B56 4007, .loop J45, .blk 0, Qs B56 63] ⟨47, [(10, .own 10 0), (11, .own 11 0), (31, VL A1 3 3), (32, I6 3), (33, I6 0), (34, VB true)], [(10, ⟨65, [I6 0, VL none 0 0, VT ByteArray.empty]⟩), (11, ⟨65, [I6 174, VL none 0 0, VT ByteArray.empty]⟩)]⟩ ?_
   refine Ix 157 2 1 A1 3 3 .i64 0 (.tmp 31) (.tmp 33) (by omega) (by omega) (Bs 19 rfl) ?_
   have at48 : At G [(19, ⟨2, 1, .slice A1 3 3, 3, [.int .i64 z, .int .i64 y, .int .i64 x]⟩)] A1 (0 * 1) [.int .i64 z] := (At.of_row (i := 19) (r := ⟨2, 1, .slice A1 3 3, 3, [.int .i64 z, .int .i64 y, .int .i64 x]⟩) rfl rfl).part 0 1
   refine Ld 2 A1 (0 * 1) (.tmp 35) (N6 z) [N6 z] at48 ?_
   refine Ra 9 (Qo B56 16025 5) 1 [] [(14, I6 z), (35, .v (elt A1 (0 * 1))), (36, I6 z), (37, .own 11 1), (38, VL none 0 0), (39, I6 z), (40, I3 (IntKind.u32.wrap z)), (41, I3 (band .u32 (IntKind.u32.wrap z) 16777215))] ?_
   refine Kn 41 .u32 (z % 16777216) rfl (band24u z) ?_
   refine Lt 42 29 1 1 [N3 (z % 16777216)] ?_
   intro A49
   refine Ap 43 (RR 29 1 none 0 0 []) 63 4 (N3 0) (.tmp 38) (.tmp 42) 0 0 1 1 none A49 [N3 (z % 16777216)] (.inr ⟨rfl, rfl, rfl, rfl⟩) (by kernel_rfl) (Ar 42 rfl) (Br 42 rfl) (ones (by kernel_rfl)) (by decide) ?_
   intro A50 c50 hc50
   refine Tr [43, 42, 19] ?_
   refine Rn 9 (.ex .normal) [.loop J45, .blk 0, Qs B56 63] ⟨47, [(10, .own 10 0), (11, .own 11 0), (14, I6 z), (31, VL A1 3 3), (32, I6 3), (33, I6 1), (34, VB true), (35, .v (elt A1 (0 * 1))), (36, I6 z), (37, .own 11 1), (38, VL none 0 0), (39, I6 z), (40, I3 (IntKind.u32.wrap z)), (41, I3 (z % 16777216)), (42, VL A49 1 1), (43, VL A50 1 c50), (44, .own 11 1), (45, I6 1)], [(10, ⟨65, [I6 0, VL none 0 0, VT ByteArray.empty]⟩), (11, ⟨65, [I6 174, VL A50 1 c50, VT ByteArray.empty]⟩)]⟩ ?_
   refine X.again (hJ45 _ _ _ ?_)
   refine RX.succ fun J51 hJ51 => ?_
   refine Rn 13 (Qo B56 16024 0) [Qs B56 16025, .blk 1, Qs B56 4007, .loop J51, .blk 0, Qs B56 63] ⟨47, [(10, .own 10 0), (11, .own 11 0), (14, I6 z), (31, VL A1 3 3), (32, I6 3), (33, I6 1), (34, VB true), (35, .v (elt A1 (0 * 1))), (36, I6 z), (37, .own 11 1), (38, VL none 0 0), (39, I6 z), (40, I3 (IntKind.u32.wrap z)), (41, I3 (z % 16777216)), (42, VL A49 1 1), (43, VL A50 1 c50), (44, .own 11 1), (45, I6 1)], [(10, ⟨65, [I6 0, VL none 0 0, VT ByteArray.empty]⟩), (11, ⟨65, [I6 174, VL A50 1 c50, VT ByteArray.empty]⟩)]⟩ ?_
   refine Ix 157 2 1 A1 3 3 .i64 1 (.tmp 31) (.tmp 33) (by omega) (by omega) (Bs 19 rfl) ?_
   have at54 : At G [(43, ⟨29, 1, .slice A50 1 c50, 1, [.int .u32 (z % 16777216)]⟩), (42, ⟨29, 1, .slice A49 1 1, 1, [.int .u32 (z % 16777216)]⟩), (19, ⟨2, 1, .slice A1 3 3, 3, [.int .i64 z, .int .i64 y, .int .i64 x]⟩)] A1 (1 * 1) [.int .i64 y] := (At.of_row (i := 19) (r := ⟨2, 1, .slice A1 3 3, 3, [.int .i64 z, .int .i64 y, .int .i64 x]⟩) rfl rfl).part 1 1
   refine Ld 2 A1 (1 * 1) (.tmp 35) (N6 y) [N6 y] at54 ?_
   refine Ra 9 (Qo B56 16025 5) 1 [] [(14, I6 y), (35, .v (elt A1 (1 * 1))), (36, I6 y), (38, VL A50 1 c50), (39, I6 y), (40, I3 (IntKind.u32.wrap y)), (41, I3 (band .u32 (IntKind.u32.wrap y) 16777215))] ?_
   refine Kn 41 .u32 (y % 16777216) rfl (band24u y) ?_
   refine Lt 42 29 1 1 [N3 (y % 16777216)] ?_
   intro A55
   refine Ap 43 _ 63 4 (N3 0) (.tmp 38) (.tmp 42) 1 c50 1 1 A50 A55 [N3 (y % 16777216)] (.inl rfl) (by kernel_rfl) (Ar 42 rfl) (Br 42 rfl) (ones (by kernel_rfl)) (by decide) ?_
   intro A56 c56 hc56
   refine Tr [43, 42, 19] ?_
   refine Rn 9 (.ex .normal) [.loop J51, .blk 0, Qs B56 63] ⟨47, [(10, .own 10 0), (11, .own 11 0), (14, I6 y), (31, VL A1 3 3), (32, I6 3), (33, I6 2), (34, VB true), (35, .v (elt A1 (1 * 1))), (36, I6 y), (37, .own 11 1), (38, VL A50 1 c50), (39, I6 y), (40, I3 (IntKind.u32.wrap y)), (41, I3 (y % 16777216)), (42, VL A55 1 1), (43, VL A56 2 c56), (44, .own 11 1), (45, I6 2)], [(10, ⟨65, [I6 0, VL none 0 0, VT ByteArray.empty]⟩), (11, ⟨65, [I6 174, VL A56 2 c56, VT ByteArray.empty]⟩)]⟩ ?_
   refine X.again (hJ51 _ _ _ ?_)
   refine RX.succ fun J57 hJ57 => ?_
   refine Rn 13 (Qo B56 16024 0) [Qs B56 16025, .blk 1, Qs B56 4007, .loop J57, .blk 0, Qs B56 63] ⟨47, [(10, .own 10 0), (11, .own 11 0), (14, I6 y), (31, VL A1 3 3), (32, I6 3), (33, I6 2), (34, VB true), (35, .v (elt A1 (1 * 1))), (36, I6 y), (37, .own 11 1), (38, VL A50 1 c50), (39, I6 y), (40, I3 (IntKind.u32.wrap y)), (41, I3 (y % 16777216)), (42, VL A55 1 1), (43, VL A56 2 c56), (44, .own 11 1), (45, I6 2)], [(10, ⟨65, [I6 0, VL none 0 0, VT ByteArray.empty]⟩), (11, ⟨65, [I6 174, VL A56 2 c56, VT ByteArray.empty]⟩)]⟩ ?_
   refine Ix 157 2 1 A1 3 3 .i64 2 (.tmp 31) (.tmp 33) (by omega) (by omega) (Bs 19 rfl) ?_
   have at60 : At G [(43, ⟨29, 1, .slice A56 2 c56, 2, [.int .u32 (z % 16777216), .int .u32 (y % 16777216)]⟩), (42, ⟨29, 1, .slice A55 1 1, 1, [.int .u32 (y % 16777216)]⟩), (19, ⟨2, 1, .slice A1 3 3, 3, [.int .i64 z, .int .i64 y, .int .i64 x]⟩)] A1 (2 * 1) [.int .i64 x] := (At.of_row (i := 19) (r := ⟨2, 1, .slice A1 3 3, 3, [.int .i64 z, .int .i64 y, .int .i64 x]⟩) rfl rfl).part 2 1
   refine Ld 2 A1 (2 * 1) (.tmp 35) (N6 x) [N6 x] at60 ?_
   refine Ra 9 (Qo B56 16025 5) 1 [] [(14, I6 x), (35, .v (elt A1 (2 * 1))), (36, I6 x), (38, VL A56 2 c56), (39, I6 x), (40, I3 (IntKind.u32.wrap x)), (41, I3 (band .u32 (IntKind.u32.wrap x) 16777215))] ?_
   refine Kn 41 .u32 (x % 16777216) rfl (band24u x) ?_
   refine Lt 42 29 1 1 [N3 (x % 16777216)] ?_
   intro A61
   refine Ap 43 _ 63 4 (N3 0) (.tmp 38) (.tmp 42) 2 c56 1 1 A56 A61 [N3 (x % 16777216)] (.inl rfl) (by kernel_rfl) (Ar 42 rfl) (Br 42 rfl) (ones (by kernel_rfl)) (by decide) ?_
   intro A62 c62 hc62
   refine Tr [43, 42, 19] ?_
   refine Rn 9 (.ex .normal) [.loop J57, .blk 0, Qs B56 63] ⟨47, [(10, .own 10 0), (11, .own 11 0), (14, I6 x), (31, VL A1 3 3), (32, I6 3), (33, I6 3), (34, VB true), (35, .v (elt A1 (2 * 1))), (36, I6 x), (37, .own 11 1), (38, VL A56 2 c56), (39, I6 x), (40, I3 (IntKind.u32.wrap x)), (41, I3 (x % 16777216)), (42, VL A61 1 1), (43, VL A62 3 c62), (44, .own 11 1), (45, I6 3)], [(10, ⟨65, [I6 0, VL none 0 0, VT ByteArray.empty]⟩), (11, ⟨65, [I6 174, VL A62 3 c62, VT ByteArray.empty]⟩)]⟩ ?_
   refine X.again (hJ57 _ _ _ ?_)
   refine RX.succ fun J63 hJ63 => ?_
   refine Rn 19 (.ex .ret) [] ⟨47, [(10, .own 10 0)], [(10, ⟨65, [I6 174, VL A62 3 c62, VT ByteArray.empty]⟩)]⟩ ?_
   refine Dg (.inl rfl) [.agg #[N6 174, .slice A62 3 c62, .string ByteArray.empty]] [43] rfl (Ge.refl _ _) ?_
   have hn_ : (max 0 (min m 3)).toNat = 3 := by omega
   have hk_ : k = 174 := by first | assumption | omega
   have hal_ : al k x y z m = [z % 16777216, y % 16777216, x % 16777216] := by unfold al; rw [hn_, if_pos hk_]; rfl
   have hak_ : ak k = 174 := by unfold ak; rw [if_pos hk_]
   rw [hal_, hak_]
   exact ⟨_, _, rfl, by first | assumption | decide, rfl⟩
 ·
  refine Rc 11 (Qo B56 124 5) 1 [Qs B56 125, Qs B56 63] [(25, VL A1 3 3), (29, I6 (imin m 3))] [12] ?_
  refine Kn 29 .i64 (min m 3) rfl (by simp only [imin_eq, imax_eq]) ?_
  refine Ra 1 (Qo B56 124 6) 0 [] [(30, I6 (imax 0 (min m 3)))] ?_
  refine Kn 30 .i64 q_ rfl (hq_) ?_
  have hcs64 : q_ = 0 ∨ q_ = 1 ∨ q_ = 2 ∨ q_ = 3 := by omega
  rcases hcs64 with rfl | rfl | rfl | rfl
  ·
   have hlo65 : 0 ≤ 0 := by omega
   have hhi65 : 0 ≤ 3 := by omega
   refine X.cut (t := 157) (e := 2) (sz := 1) (n := 3) (c := 3) (A := A1) (x := .tmp 25) (l := none) (h := (some (.tmp 30))) (lv := none) (hv := (some (N6 0))) 0 0 (by kernel_rfl) (by kernel_rfl) (by kernel_rfl) (by kernel_rfl) (by kernel_rfl) (by kernel_rfl) (by kernel_rfl) (rfl) (⟨_, _, rfl, by omega, rfl⟩) hlo65 (Nat.le_trans hhi65 (by omega)) ?_
   refine X.known 31 (y := VL A1 0 3) rfl (by rw [cutA_zero] <;> rfl) ?_
   refine Ra 5 (Qc B56 250) 1 [.blk 0] [(31, VL A1 0 3), (32, I6 0), (33, I6 0)] ?_
   refine X.rounds 5 ?_
   refine RX.succ fun J66 hJ66 => ?_
   refine Rn 19 (.ex .ret) [] ⟨47, [(10, .own 10 0)], [(10, ⟨65, [I6 172, VL none 0 0, VT ByteArray.empty]⟩)]⟩ ?_
   refine X.nilRow 900 29 1 rfl ?_
   refine Dg (.inl rfl) [.agg #[N6 172, .slice none 0 0, .string ByteArray.empty]] [900] rfl (Ge.refl _ _) ?_
   have hn_ : (max 0 (min m 3)).toNat = 0 := by omega
   have hk_ : k ≠ 174 := by first | assumption | omega
   have hal_ : al k x y z m = [] := by unfold al; rw [hn_, if_neg hk_]; rfl
   have hak_ : ak k = 172 := by unfold ak; rw [if_neg hk_]
   rw [hal_, hak_]
   exact ⟨_, _, rfl, by first | assumption | decide, rfl⟩
  ·
   have hlo67 : 0 ≤ 1 := by omega
   have hhi67 : 1 ≤ 3 := by omega
   refine X.cut (t := 157) (e := 2) (sz := 1) (n := 3) (c := 3) (A := A1) (x := .tmp 25) (l := none) (h := (some (.tmp 30))) (lv := none) (hv := (some (N6 1))) 0 1 (by kernel_rfl) (by kernel_rfl) (by kernel_rfl) (by kernel_rfl) (by kernel_rfl) (by kernel_rfl) (by kernel_rfl) (rfl) (⟨_, _, rfl, by omega, rfl⟩) hlo67 (Nat.le_trans hhi67 (by omega)) ?_
   refine X.known 31 (y := VL A1 1 3) rfl (by rw [cutA_zero] <;> rfl) ?_
   refine Ra 5 (Qc B56 250) 1 [.blk 0] [(31, VL A1 1 3), (32, I6 1), (33, I6 0)] ?_
   refine X.rounds 5 ?_
   refine RX.succ fun J68 hJ68 => ?_
   refine Rn 13 (Qo B56 16024 0) [Qs B56 16025, .blk 1, Qs B56 4007, .loop J68, .blk 0, Qs B56 63] ⟨47, [(10, .own 10 0), (11, .own 11 0), (31, VL A1 1 3), (32, I6 1), (33, I6 0), (34, VB true)], [(10, ⟨65, [I6 0, VL none 0 0, VT ByteArray.empty]⟩), (11, ⟨65, [I6 172, VL none 0 0, VT ByteArray.empty]⟩)]⟩ ?_
   refine Ix 157 2 1 A1 1 3 .i64 0 (.tmp 31) (.tmp 33) (by omega) (by omega) (Bs 19 rfl) ?_
   have at71 : At G [(19, ⟨2, 1, .slice A1 3 3, 3, [.int .i64 x, .int .i64 y, .int .i64 z]⟩)] A1 (0 * 1) [.int .i64 x] := (At.of_row (i := 19) (r := ⟨2, 1, .slice A1 3 3, 3, [.int .i64 x, .int .i64 y, .int .i64 z]⟩) rfl rfl).part 0 1
   refine Ld 2 A1 (0 * 1) (.tmp 35) (N6 x) [N6 x] at71 ?_
   refine Ra 9 (Qo B56 16025 5) 1 [] [(14, I6 x), (35, .v (elt A1 (0 * 1))), (36, I6 x), (37, .own 11 1), (38, VL none 0 0), (39, I6 x), (40, I3 (IntKind.u32.wrap x)), (41, I3 (band .u32 (IntKind.u32.wrap x) 16777215))] ?_
   refine Kn 41 .u32 (x % 16777216) rfl (band24u x) ?_
   refine Lt 42 29 1 1 [N3 (x % 16777216)] ?_
   intro A72
   refine Ap 43 (RR 29 1 none 0 0 []) 63 4 (N3 0) (.tmp 38) (.tmp 42) 0 0 1 1 none A72 [N3 (x % 16777216)] (.inr ⟨rfl, rfl, rfl, rfl⟩) (by kernel_rfl) (Ar 42 rfl) (Br 42 rfl) (ones (by kernel_rfl)) (by decide) ?_
   intro A73 c73 hc73
   refine Tr [43, 42, 19] ?_
   refine Rn 9 (.ex .normal) [.loop J68, .blk 0, Qs B56 63] ⟨47, [(10, .own 10 0), (11, .own 11 0), (14, I6 x), (31, VL A1 1 3), (32, I6 1), (33, I6 1), (34, VB true), (35, .v (elt A1 (0 * 1))), (36, I6 x), (37, .own 11 1), (38, VL none 0 0), (39, I6 x), (40, I3 (IntKind.u32.wrap x)), (41, I3 (x % 16777216)), (42, VL A72 1 1), (43, VL A73 1 c73), (44, .own 11 1), (45, I6 1)], [(10, ⟨65, [I6 0, VL none 0 0, VT ByteArray.empty]⟩), (11, ⟨65, [I6 172, VL A73 1 c73, VT ByteArray.empty]⟩)]⟩ ?_
   refine X.again (hJ68 _ _ _ ?_)
   refine RX.succ fun J74 hJ74 => ?_
   refine Rn 19 (.ex .ret) [] ⟨47, [(10, .own 10 0)], [(10, ⟨65, [I6 172, VL A73 1 c73, VT ByteArray.empty]⟩)]⟩ ?_
   refine Dg (.inl rfl) [.agg #[N6 172, .slice A73 1 c73, .string ByteArray.empty]] [43] rfl (Ge.refl _ _) ?_
   have hn_ : (max 0 (min m 3)).toNat = 1 := by omega
   have hk_ : k ≠ 174 := by first | assumption | omega
   have hal_ : al k x y z m = [x % 16777216] := by unfold al; rw [hn_, if_neg hk_]; rfl
   have hak_ : ak k = 172 := by unfold ak; rw [if_neg hk_]
   rw [hal_, hak_]
   exact ⟨_, _, rfl, by first | assumption | decide, rfl⟩
  ·
   have hlo75 : 0 ≤ 2 := by omega
   have hhi75 : 2 ≤ 3 := by omega
   refine X.cut (t := 157) (e := 2) (sz := 1) (n := 3) (c := 3) (A := A1) (x := .tmp 25) (l := none) (h := (some (.tmp 30))) (lv := none) (hv := (some (N6 2))) 0 2 (by kernel_rfl) (by kernel_rfl) (by kernel_rfl) (by kernel_rfl) (by kernel_rfl) (by kernel_rfl) (by kernel_rfl) (rfl) (⟨_, _, rfl, by omega, rfl⟩) hlo75 (Nat.le_trans hhi75 (by omega)) ?_
   refine X.known 31 (y := VL A1 2 3) rfl (by rw [cutA_zero] <;> rfl) ?_
   refine Ra 5 (Qc B56 250) 1 [.blk 0] [(31, VL A1 2 3), (32, I6 2), (33, I6 0)] ?_
   refine X.rounds 5 ?_
   refine RX.succ fun J76 hJ76 => ?_
   refine Rn 13 (Qo B56 16024 0) [Qs B56 16025, .blk 1, Qs B56 4007, .loop J76, .blk 0, Qs B56 63] ⟨47, [(10, .own 10 0), (11, .own 11 0), (31, VL A1 2 3), (32, I6 2), (33, I6 0), (34, VB true)], [(10, ⟨65, [I6 0, VL none 0 0, VT ByteArray.empty]⟩), (11, ⟨65, [I6 172, VL none 0 0, VT ByteArray.empty]⟩)]⟩ ?_
   refine Ix 157 2 1 A1 2 3 .i64 0 (.tmp 31) (.tmp 33) (by omega) (by omega) (Bs 19 rfl) ?_
   have at79 : At G [(19, ⟨2, 1, .slice A1 3 3, 3, [.int .i64 x, .int .i64 y, .int .i64 z]⟩)] A1 (0 * 1) [.int .i64 x] := (At.of_row (i := 19) (r := ⟨2, 1, .slice A1 3 3, 3, [.int .i64 x, .int .i64 y, .int .i64 z]⟩) rfl rfl).part 0 1
   refine Ld 2 A1 (0 * 1) (.tmp 35) (N6 x) [N6 x] at79 ?_
   refine Ra 9 (Qo B56 16025 5) 1 [] [(14, I6 x), (35, .v (elt A1 (0 * 1))), (36, I6 x), (37, .own 11 1), (38, VL none 0 0), (39, I6 x), (40, I3 (IntKind.u32.wrap x)), (41, I3 (band .u32 (IntKind.u32.wrap x) 16777215))] ?_
   refine Kn 41 .u32 (x % 16777216) rfl (band24u x) ?_
   refine Lt 42 29 1 1 [N3 (x % 16777216)] ?_
   intro A80
   refine Ap 43 (RR 29 1 none 0 0 []) 63 4 (N3 0) (.tmp 38) (.tmp 42) 0 0 1 1 none A80 [N3 (x % 16777216)] (.inr ⟨rfl, rfl, rfl, rfl⟩) (by kernel_rfl) (Ar 42 rfl) (Br 42 rfl) (ones (by kernel_rfl)) (by decide) ?_
   intro A81 c81 hc81
   refine Tr [43, 42, 19] ?_
   refine Rn 9 (.ex .normal) [.loop J76, .blk 0, Qs B56 63] ⟨47, [(10, .own 10 0), (11, .own 11 0), (14, I6 x), (31, VL A1 2 3), (32, I6 2), (33, I6 1), (34, VB true), (35, .v (elt A1 (0 * 1))), (36, I6 x), (37, .own 11 1), (38, VL none 0 0), (39, I6 x), (40, I3 (IntKind.u32.wrap x)), (41, I3 (x % 16777216)), (42, VL A80 1 1), (43, VL A81 1 c81), (44, .own 11 1), (45, I6 1)], [(10, ⟨65, [I6 0, VL none 0 0, VT ByteArray.empty]⟩), (11, ⟨65, [I6 172, VL A81 1 c81, VT ByteArray.empty]⟩)]⟩ ?_
   refine X.again (hJ76 _ _ _ ?_)
   refine RX.succ fun J82 hJ82 => ?_
   refine Rn 13 (Qo B56 16024 0) [Qs B56 16025, .blk 1, Qs B56 4007, .loop J82, .blk 0, Qs B56 63] ⟨47, [(10, .own 10 0), (11, .own 11 0), (14, I6 x), (31, VL A1 2 3), (32, I6 2), (33, I6 1), (34, VB true), (35, .v (elt A1 (0 * 1))), (36, I6 x), (37, .own 11 1), (38, VL none 0 0), (39, I6 x), (40, I3 (IntKind.u32.wrap x)), (41, I3 (x % 16777216)), (42, VL A80 1 1), (43, VL A81 1 c81), (44, .own 11 1), (45, I6 1)], [(10, ⟨65, [I6 0, VL none 0 0, VT ByteArray.empty]⟩), (11, ⟨65, [I6 172, VL A81 1 c81, VT ByteArray.empty]⟩)]⟩ ?_
   refine Ix 157 2 1 A1 2 3 .i64 1 (.tmp 31) (.tmp 33) (by omega) (by omega) (Bs 19 rfl) ?_
   have at85 : At G [(43, ⟨29, 1, .slice A81 1 c81, 1, [.int .u32 (x % 16777216)]⟩), (42, ⟨29, 1, .slice A80 1 1, 1, [.int .u32 (x % 16777216)]⟩), (19, ⟨2, 1, .slice A1 3 3, 3, [.int .i64 x, .int .i64 y, .int .i64 z]⟩)] A1 (1 * 1) [.int .i64 y] := (At.of_row (i := 19) (r := ⟨2, 1, .slice A1 3 3, 3, [.int .i64 x, .int .i64 y, .int .i64 z]⟩) rfl rfl).part 1 1
   refine Ld 2 A1 (1 * 1) (.tmp 35) (N6 y) [N6 y] at85 ?_
   refine Ra 9 (Qo B56 16025 5) 1 [] [(14, I6 y), (35, .v (elt A1 (1 * 1))), (36, I6 y), (38, VL A81 1 c81), (39, I6 y), (40, I3 (IntKind.u32.wrap y)), (41, I3 (band .u32 (IntKind.u32.wrap y) 16777215))] ?_
   refine Kn 41 .u32 (y % 16777216) rfl (band24u y) ?_
   refine Lt 42 29 1 1 [N3 (y % 16777216)] ?_
   intro A86
   refine Ap 43 _ 63 4 (N3 0) (.tmp 38) (.tmp 42) 1 c81 1 1 A81 A86 [N3 (y % 16777216)] (.inl rfl) (by kernel_rfl) (Ar 42 rfl) (Br 42 rfl) (ones (by kernel_rfl)) (by decide) ?_
   intro A87 c87 hc87
   refine Tr [43, 42, 19] ?_
   refine Rn 9 (.ex .normal) [.loop J82, .blk 0, Qs B56 63] ⟨47, [(10, .own 10 0), (11, .own 11 0), (14, I6 y), (31, VL A1 2 3), (32, I6 2), (33, I6 2), (34, VB true), (35, .v (elt A1 (1 * 1))), (36, I6 y), (37, .own 11 1), (38, VL A81 1 c81), (39, I6 y), (40, I3 (IntKind.u32.wrap y)), (41, I3 (y % 16777216)), (42, VL A86 1 1), (43, VL A87 2 c87), (44, .own 11 1), (45, I6 2)], [(10, ⟨65, [I6 0, VL none 0 0, VT ByteArray.empty]⟩), (11, ⟨65, [I6 172, VL A87 2 c87, VT ByteArray.empty]⟩)]⟩ ?_
   refine X.again (hJ82 _ _ _ ?_)
   refine RX.succ fun J88 hJ88 => ?_
   refine Rn 19 (.ex .ret) [] ⟨47, [(10, .own 10 0)], [(10, ⟨65, [I6 172, VL A87 2 c87, VT ByteArray.empty]⟩)]⟩ ?_
   refine Dg (.inl rfl) [.agg #[N6 172, .slice A87 2 c87, .string ByteArray.empty]] [43] rfl (Ge.refl _ _) ?_
   have hn_ : (max 0 (min m 3)).toNat = 2 := by omega
   have hk_ : k ≠ 174 := by first | assumption | omega
   have hal_ : al k x y z m = [x % 16777216, y % 16777216] := by unfold al; rw [hn_, if_neg hk_]; rfl
   have hak_ : ak k = 172 := by unfold ak; rw [if_neg hk_]
   rw [hal_, hak_]
   exact ⟨_, _, rfl, by first | assumption | decide, rfl⟩
  ·
   have hlo89 : 0 ≤ 3 := by omega
   have hhi89 : 3 ≤ 3 := by omega
   refine X.cut (t := 157) (e := 2) (sz := 1) (n := 3) (c := 3) (A := A1) (x := .tmp 25) (l := none) (h := (some (.tmp 30))) (lv := none) (hv := (some (N6 3))) 0 3 (by kernel_rfl) (by kernel_rfl) (by kernel_rfl) (by kernel_rfl) (by kernel_rfl) (by kernel_rfl) (by kernel_rfl) (rfl) (⟨_, _, rfl, by omega, rfl⟩) hlo89 (Nat.le_trans hhi89 (by omega)) ?_
   refine X.known 31 (y := VL A1 3 3) rfl (by rw [cutA_zero] <;> rfl) ?_
   refine Ra 5 (Qc B56 250) 1 [.blk 0] [(31, VL A1 3 3), (32, I6 3), (33, I6 0)] ?_
   refine X.rounds 5 ?_
   refine RX.succ fun J90 hJ90 => ?_
   refine Rn 13 (Qo B56 16024 0) [Qs B56 16025, .blk 1, Qs B56 4007, .loop J90, .blk 0, Qs B56 63] ⟨47, [(10, .own 10 0), (11, .own 11 0), (31, VL A1 3 3), (32, I6 3), (33, I6 0), (34, VB true)], [(10, ⟨65, [I6 0, VL none 0 0, VT ByteArray.empty]⟩), (11, ⟨65, [I6 172, VL none 0 0, VT ByteArray.empty]⟩)]⟩ ?_
   refine Ix 157 2 1 A1 3 3 .i64 0 (.tmp 31) (.tmp 33) (by omega) (by omega) (Bs 19 rfl) ?_
   have at93 : At G [(19, ⟨2, 1, .slice A1 3 3, 3, [.int .i64 x, .int .i64 y, .int .i64 z]⟩)] A1 (0 * 1) [.int .i64 x] := (At.of_row (i := 19) (r := ⟨2, 1, .slice A1 3 3, 3, [.int .i64 x, .int .i64 y, .int .i64 z]⟩) rfl rfl).part 0 1
   refine Ld 2 A1 (0 * 1) (.tmp 35) (N6 x) [N6 x] at93 ?_
   refine Ra 9 (Qo B56 16025 5) 1 [] [(14, I6 x), (35, .v (elt A1 (0 * 1))), (36, I6 x), (37, .own 11 1), (38, VL none 0 0), (39, I6 x), (40, I3 (IntKind.u32.wrap x)), (41, I3 (band .u32 (IntKind.u32.wrap x) 16777215))] ?_
   refine Kn 41 .u32 (x % 16777216) rfl (band24u x) ?_
   refine Lt 42 29 1 1 [N3 (x % 16777216)] ?_
   intro A94
   refine Ap 43 (RR 29 1 none 0 0 []) 63 4 (N3 0) (.tmp 38) (.tmp 42) 0 0 1 1 none A94 [N3 (x % 16777216)] (.inr ⟨rfl, rfl, rfl, rfl⟩) (by kernel_rfl) (Ar 42 rfl) (Br 42 rfl) (ones (by kernel_rfl)) (by decide) ?_
   intro A95 c95 hc95
   refine Tr [43, 42, 19] ?_
   refine Rn 9 (.ex .normal) [.loop J90, .blk 0, Qs B56 63] ⟨47, [(10, .own 10 0), (11, .own 11 0), (14, I6 x), (31, VL A1 3 3), (32, I6 3), (33, I6 1), (34, VB true), (35, .v (elt A1 (0 * 1))), (36, I6 x), (37, .own 11 1), (38, VL none 0 0), (39, I6 x), (40, I3 (IntKind.u32.wrap x)), (41, I3 (x % 16777216)), (42, VL A94 1 1), (43, VL A95 1 c95), (44, .own 11 1), (45, I6 1)], [(10, ⟨65, [I6 0, VL none 0 0, VT ByteArray.empty]⟩), (11, ⟨65, [I6 172, VL A95 1 c95, VT ByteArray.empty]⟩)]⟩ ?_
   refine X.again (hJ90 _ _ _ ?_)
   refine RX.succ fun J96 hJ96 => ?_
   refine Rn 13 (Qo B56 16024 0) [Qs B56 16025, .blk 1, Qs B56 4007, .loop J96, .blk 0, Qs B56 63] ⟨47, [(10, .own 10 0), (11, .own 11 0), (14, I6 x), (31, VL A1 3 3), (32, I6 3), (33, I6 1), (34, VB true), (35, .v (elt A1 (0 * 1))), (36, I6 x), (37, .own 11 1), (38, VL none 0 0), (39, I6 x), (40, I3 (IntKind.u32.wrap x)), (41, I3 (x % 16777216)), (42, VL A94 1 1), (43, VL A95 1 c95), (44, .own 11 1), (45, I6 1)], [(10, ⟨65, [I6 0, VL none 0 0, VT ByteArray.empty]⟩), (11, ⟨65, [I6 172, VL A95 1 c95, VT ByteArray.empty]⟩)]⟩ ?_
   refine Ix 157 2 1 A1 3 3 .i64 1 (.tmp 31) (.tmp 33) (by omega) (by omega) (Bs 19 rfl) ?_
   have at99 : At G [(43, ⟨29, 1, .slice A95 1 c95, 1, [.int .u32 (x % 16777216)]⟩), (42, ⟨29, 1, .slice A94 1 1, 1, [.int .u32 (x % 16777216)]⟩), (19, ⟨2, 1, .slice A1 3 3, 3, [.int .i64 x, .int .i64 y, .int .i64 z]⟩)] A1 (1 * 1) [.int .i64 y] := (At.of_row (i := 19) (r := ⟨2, 1, .slice A1 3 3, 3, [.int .i64 x, .int .i64 y, .int .i64 z]⟩) rfl rfl).part 1 1
   refine Ld 2 A1 (1 * 1) (.tmp 35) (N6 y) [N6 y] at99 ?_
   refine Ra 9 (Qo B56 16025 5) 1 [] [(14, I6 y), (35, .v (elt A1 (1 * 1))), (36, I6 y), (38, VL A95 1 c95), (39, I6 y), (40, I3 (IntKind.u32.wrap y)), (41, I3 (band .u32 (IntKind.u32.wrap y) 16777215))] ?_
   refine Kn 41 .u32 (y % 16777216) rfl (band24u y) ?_
   refine Lt 42 29 1 1 [N3 (y % 16777216)] ?_
   intro A100
   refine Ap 43 _ 63 4 (N3 0) (.tmp 38) (.tmp 42) 1 c95 1 1 A95 A100 [N3 (y % 16777216)] (.inl rfl) (by kernel_rfl) (Ar 42 rfl) (Br 42 rfl) (ones (by kernel_rfl)) (by decide) ?_
   intro A101 c101 hc101
   refine Tr [43, 42, 19] ?_
   refine Rn 9 (.ex .normal) [.loop J96, .blk 0, Qs B56 63] ⟨47, [(10, .own 10 0), (11, .own 11 0), (14, I6 y), (31, VL A1 3 3), (32, I6 3), (33, I6 2), (34, VB true), (35, .v (elt A1 (1 * 1))), (36, I6 y), (37, .own 11 1), (38, VL A95 1 c95), (39, I6 y), (40, I3 (IntKind.u32.wrap y)), (41, I3 (y % 16777216)), (42, VL A100 1 1), (43, VL A101 2 c101), (44, .own 11 1), (45, I6 2)], [(10, ⟨65, [I6 0, VL none 0 0, VT ByteArray.empty]⟩), (11, ⟨65, [I6 172, VL A101 2 c101, VT ByteArray.empty]⟩)]⟩ ?_
   refine X.again (hJ96 _ _ _ ?_)
   refine RX.succ fun J102 hJ102 => ?_
   refine Rn 13 (Qo B56 16024 0) [Qs B56 16025, .blk 1, Qs B56 4007, .loop J102, .blk 0, Qs B56 63] ⟨47, [(10, .own 10 0), (11, .own 11 0), (14, I6 y), (31, VL A1 3 3), (32, I6 3), (33, I6 2), (34, VB true), (35, .v (elt A1 (1 * 1))), (36, I6 y), (37, .own 11 1), (38, VL A95 1 c95), (39, I6 y), (40, I3 (IntKind.u32.wrap y)), (41, I3 (y % 16777216)), (42, VL A100 1 1), (43, VL A101 2 c101), (44, .own 11 1), (45, I6 2)], [(10, ⟨65, [I6 0, VL none 0 0, VT ByteArray.empty]⟩), (11, ⟨65, [I6 172, VL A101 2 c101, VT ByteArray.empty]⟩)]⟩ ?_
   refine Ix 157 2 1 A1 3 3 .i64 2 (.tmp 31) (.tmp 33) (by omega) (by omega) (Bs 19 rfl) ?_
   have at105 : At G [(43, ⟨29, 1, .slice A101 2 c101, 2, [.int .u32 (x % 16777216), .int .u32 (y % 16777216)]⟩), (42, ⟨29, 1, .slice A100 1 1, 1, [.int .u32 (y % 16777216)]⟩), (19, ⟨2, 1, .slice A1 3 3, 3, [.int .i64 x, .int .i64 y, .int .i64 z]⟩)] A1 (2 * 1) [.int .i64 z] := (At.of_row (i := 19) (r := ⟨2, 1, .slice A1 3 3, 3, [.int .i64 x, .int .i64 y, .int .i64 z]⟩) rfl rfl).part 2 1
   refine Ld 2 A1 (2 * 1) (.tmp 35) (N6 z) [N6 z] at105 ?_
   refine Ra 9 (Qo B56 16025 5) 1 [] [(14, I6 z), (35, .v (elt A1 (2 * 1))), (36, I6 z), (38, VL A101 2 c101), (39, I6 z), (40, I3 (IntKind.u32.wrap z)), (41, I3 (band .u32 (IntKind.u32.wrap z) 16777215))] ?_
   refine Kn 41 .u32 (z % 16777216) rfl (band24u z) ?_
   refine Lt 42 29 1 1 [N3 (z % 16777216)] ?_
   intro A106
   refine Ap 43 _ 63 4 (N3 0) (.tmp 38) (.tmp 42) 2 c101 1 1 A101 A106 [N3 (z % 16777216)] (.inl rfl) (by kernel_rfl) (Ar 42 rfl) (Br 42 rfl) (ones (by kernel_rfl)) (by decide) ?_
   intro A107 c107 hc107
   refine Tr [43, 42, 19] ?_
   refine Rn 9 (.ex .normal) [.loop J102, .blk 0, Qs B56 63] ⟨47, [(10, .own 10 0), (11, .own 11 0), (14, I6 z), (31, VL A1 3 3), (32, I6 3), (33, I6 3), (34, VB true), (35, .v (elt A1 (2 * 1))), (36, I6 z), (37, .own 11 1), (38, VL A101 2 c101), (39, I6 z), (40, I3 (IntKind.u32.wrap z)), (41, I3 (z % 16777216)), (42, VL A106 1 1), (43, VL A107 3 c107), (44, .own 11 1), (45, I6 3)], [(10, ⟨65, [I6 0, VL none 0 0, VT ByteArray.empty]⟩), (11, ⟨65, [I6 172, VL A107 3 c107, VT ByteArray.empty]⟩)]⟩ ?_
   refine X.again (hJ102 _ _ _ ?_)
   refine RX.succ fun J108 hJ108 => ?_
   refine Rn 19 (.ex .ret) [] ⟨47, [(10, .own 10 0)], [(10, ⟨65, [I6 172, VL A107 3 c107, VT ByteArray.empty]⟩)]⟩ ?_
   refine Dg (.inl rfl) [.agg #[N6 172, .slice A107 3 c107, .string ByteArray.empty]] [43] rfl (Ge.refl _ _) ?_
   have hn_ : (max 0 (min m 3)).toNat = 3 := by omega
   have hk_ : k ≠ 174 := by first | assumption | omega
   have hal_ : al k x y z m = [x % 16777216, y % 16777216, z % 16777216] := by unfold al; rw [hn_, if_neg hk_]; rfl
   have hak_ : ak k = 172 := by unfold ak; rw [if_neg hk_]
   rw [hal_, hak_]
   exact ⟨_, _, rfl, by first | assumption | decide, rfl⟩
end Go.Proofs.YtjgpdbkkpomhjaaX
