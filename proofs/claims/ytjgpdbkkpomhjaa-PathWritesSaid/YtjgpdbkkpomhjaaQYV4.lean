/- A part of a law's proof. Conditions: none. -/
import Derived.Test.YtjgpdbkkpomhjaaProg
import Derived.KernelRfl
import Derived.Test.YtjgpdbkkpomhjaaQYM1
import Derived.Test.YtjgpdbkkpomhjaaQYV9
import Derived.Test.YtjgpdbkkpomhjaaQYT
namespace Go.Proofs.YtjgpdbkkpomhjaaX
open Go.RowKit
open Go.Proofs.YtjgpdbkkpomhjaaW.PrintLast
set_option linter.unusedVariables false
set_option linter.unusedSimpArgs false
set_option maxRecDepth 100000
theorem find_zero {k : Int} (hk : k ≠ 0) : ∀ (xs : List Opt), (findO xs k).1.1 = 0 ↔ (findO xs k).2 = false
 | [] => by simp [findO, opt0]
 | o :: l => by
  unfold findO
  by_cases h : o.1 = k
  · rw [if_pos h]; simp [h, hk]
  · rw [if_neg h]; exact find_zero hk l
theorem find_there {k : Int} (hk : k ≠ 0) {xs : List Opt} (h : (findO xs k).1.1 ≠ 0) : (findO xs k).2 = true := by
 cases e : (findO xs k).2 with
 | true => rfl
 | false => exact absurd ((find_zero hk xs).mpr e) h
noncomputable def B130 : Code := bodyOf Try.f130
set_option maxHeartbeats 1000000 in
theorem RFind_ok (A : Option Addr) (c : Nat) (xs : List Opt) (k : Int) (G : Mem) (hr : rowAt optD G A xs) (hle : xs.length ≤ c) (hmx : c ≤ maxLen) : CallsG Try.prog 130 [.slice A xs.length c, .int .i64 k] G (fun G' v rows => ∃ B c', v = .agg #[.int .i64 (findO xs k).1.1, .slice B (findO xs k).1.2.1.length c', .string (findO xs k).1.2.2] ∧ (findO xs k).1.2.1.length ≤ c' ∧ c' ≤ maxLen ∧ rowAt (D.int .u32) G' B (findO xs k).1.2.1 ∧ rows = []) := by
 simp only [maxLen] at hmx
 refine CallsG.enter Try.func130 rfl rfl ?_
 intro w
 refine Rn 12 (Qc B130 26) [.blk 0, Qs B130 7] _ (X.loopJ (fun m s R' G' => ∃ (i_ : Nat), s = ⟨24, [(0, VL A xs.length c), (1, I6 k), (4, .own 4 0), (5, I6 (i_ : Int))], [(4, ⟨65, [I6 0, VL none 0 0, VT ByteArray.empty]⟩)]⟩ ∧ R' = [] ∧ G = G' ∧ (i_ ≤ xs.length ∧ ∀ o ∈ xs.take i_, o.1 ≠ k) ∧ m = (xs.length - i_)) _ ⟨0, rfl, rfl, rfl, ⟨by omega, by simp⟩, rfl⟩ ?_)
 rintro m1 s1 R1 G1 ⟨i_, rfl, rfl, rfl, hF1, rfl⟩ J1 hJ1
 obtain ⟨hi_, hj_⟩ := hF1
 refine Ra 9 (Qc B130 209) 0 [Qs B130 105] [(9, VB (decide ((i_ : Int) < (xs.length : Int))))] ?_
 refine Sd 9 rfl ?_ ?_ <;> intro h2
 ·
  refine Ra 9 (Qo B130 840 2) 1 [Qs B130 841, .blk 1, Qs B130 211] [(12, VL A xs.length c), (13, I6 (i_ : Int))] ?_
  refine Ix 59 65 3 A xs.length c .i64 (i_ : Int) (.tmp 12) (.tmp 13) (by omega) (by omega) (fun _ _ => rowAt.so hr (by omega)) ?_
  obtain ⟨A5, c5, at5, kr5, le5, mx5, hr5⟩ := At.opt [] hr (((i_ : Int)).toNat) (by omega)
  simp only [IntKind.lo, IntKind.hi, maxLen] at kr5 mx5
  refine Ra 0 (Qo B130 840 3) 0 [] [(14, .v (elt A (((i_ : Int)).toNat * 3)))] ?_
  refine X.field (t := 65) (f := 0) (n := 0) (A := A) (j := ((i_ : Int)).toNat * 3) (x := .tmp 14) (by kernel_rfl) (by kernel_rfl) (by kernel_rfl) (by kernel_rfl) ?_
  refine Ra 0 (Qo B130 840 4) 0 [] [(15, .v (elt A (((i_ : Int)).toNat * 3 + 0)))] ?_
  refine Ld 3 A (((i_ : Int)).toNat * 3 + 0) (.tmp 15) (N6 ((xs.getD (((i_ : Int)).toNat) opt0).1)) [N6 ((xs.getD (((i_ : Int)).toNat) opt0).1)] (at5.part 0 1) ?_
  refine Ra 4 (Qc B130 841) 1 [] [(18, VB (((xs.getD (((i_ : Int)).toNat) opt0).1) == k))] ?_
  refine Se 18 rfl ?_ ?_ <;> intro h6
  ·
   refine Ra 5 (Qo B130 3364 2) 0 [Qs B130 3365] [(19, VL A xs.length c), (20, I6 (i_ : Int))] ?_
   refine Ix 59 65 3 A xs.length c .i64 (i_ : Int) (.tmp 19) (.tmp 20) (by omega) (by omega) (fun _ _ => rowAt.so hr (by omega)) ?_
   obtain ⟨A9, c9, at9, kr9, le9, mx9, hr9⟩ := At.opt [] hr (((i_ : Int)).toNat) (by omega)
   simp only [IntKind.lo, IntKind.hi, maxLen] at kr9 mx9
   refine Ra 0 (Qo B130 3364 3) 0 [] [(21, .v (elt A (((i_ : Int)).toNat * 3)))] ?_
   refine Ld 65 A (((i_ : Int)).toNat * 3) (.tmp 21) (.agg #[N6 ((xs.getD (((i_ : Int)).toNat) opt0).1), .slice A9 ((xs.getD (((i_ : Int)).toNat) opt0).2.1.length) c9, .string ((xs.getD (((i_ : Int)).toNat) opt0).2.2)]) [N6 ((xs.getD (((i_ : Int)).toNat) opt0).1), .slice A9 ((xs.getD (((i_ : Int)).toNat) opt0).2.1.length) c9, .string ((xs.getD (((i_ : Int)).toNat) opt0).2.2)] at9 ?_
   refine Rb 9 (.ex .ret) 6 [] [] [0, 1, 5, 21] [(4, ⟨65, [I6 ((xs.getD (((i_ : Int)).toNat) opt0).1), VL A9 ((xs.getD (((i_ : Int)).toNat) opt0).2.1.length) c9, VT ((xs.getD (((i_ : Int)).toNat) opt0).2.2)]⟩)] [] ?_
   refine Dg (.inl rfl) [.agg #[N6 ((xs.getD (((i_ : Int)).toNat) opt0).1), .slice A9 ((xs.getD (((i_ : Int)).toNat) opt0).2.1.length) c9, .string ((xs.getD (((i_ : Int)).toNat) opt0).2.2)]] [] rfl (Ge.refl _ _) ?_
   rw [findO_some (i := i_) (by omega) hj_ (by assumption)]
   exact ⟨_, _, rfl, le9, mx9, hr9, rfl⟩
  ·
   refine Ra 7 (Qo B130 211 2) 2 [] [(11, I6 (IntKind.i64.wrap ((i_ : Int) + 1)))] ?_
   refine Kn 11 .i64 ((i_ + 1 : Nat) : Int) rfl (by rw [wi64 (by omega) (by omega)]; push_cast; rfl) ?_
   refine Rn 2 (.ex .normal) [.loop J1, .blk 0, Qs B130 7] ⟨24, [(0, VL A xs.length c), (1, I6 k), (4, .own 4 0), (5, I6 ((i_ + 1 : Nat) : Int))], [(4, ⟨65, [I6 0, VL none 0 0, VT ByteArray.empty]⟩)]⟩ ?_
   exact X.again (hJ1 _ _ _ _ ⟨(i_ + 1), rfl, rfl, rfl, ⟨by omega, by
    have h_ := take_all (p := fun o : Opt => o.1 ≠ k) (d := opt0) hj_ (by omega) (by assumption)
    exact h_⟩, rfl⟩ (by omega))
 ·
  refine Rn 13 (.ex .ret) [] ⟨24, [(4, .own 4 0)], [(4, ⟨65, [I6 0, VL none 0 0, VT ByteArray.empty]⟩)]⟩ ?_
  refine Dg (.inl rfl) [.agg #[N6 0, .slice none 0 0, .string ByteArray.empty]] [] rfl (Ge.refl _ _) ?_
  rw [List.take_of_length_le (by omega)] at hj_
  rw [findO_none hj_]
  exact ⟨none, 0, rfl, by simp [opt0], by simp [maxLen], rowAt.nil _ _ _, rfl⟩
noncomputable def B128 : Code := bodyOf Try.f128
noncomputable def B74 : Code := bodyOf Try.f74
set_option maxHeartbeats 2000000 in
theorem RWrite_ok (f u s a x y z : Int) (G : Mem) (hs : 0 ≤ s ∧ s ≤ 4294967295) (ha : 0 ≤ a ∧ a ≤ 255) (hx : (-9223372036854775808 ≤ x ∧ x ≤ 9223372036854775807)) (hy : (-9223372036854775808 ≤ y ∧ y ≤ 9223372036854775807)) (hz : (-9223372036854775808 ≤ z ∧ z ≤ 9223372036854775807)) : CallsG Try.prog 74 [.int .i64 f, .agg #[.int .i64 u, .int .u32 s, .int .u8 a, .int .i64 x, .int .i64 y, .int .i64 z]] G (fun _ v rows => ∃ A' c', v = .tuple #[.slice A' (wrP f ⟨u, s, a, x, y, z⟩).1.length c', .int .i64 (wrP f ⟨u, s, a, x, y, z⟩).2] ∧ rows = [⟨5, 1, .slice A' (wrP f ⟨u, s, a, x, y, z⟩).1.length c', (wrP f ⟨u, s, a, x, y, z⟩).1.length, (wrP f ⟨u, s, a, x, y, z⟩).1.map (Value.int .u8)⟩]) := by
 refine CallsG.enter Try.func74 rfl rfl ?_
 intro w
 refine Rn 13 (Qo B74 6 4) [Qs B74 7] ⟨14, [(4, VL none 0 0), (5, I6 0), (6, .v (.agg #[N8 10, N8 0, N8 0, N8 2])), (7, .v (.agg #[N8 10, N8 0, N8 0, N8 1])), (8, I6 f), (9, .v (.agg #[N6 u, N3 s, N8 a, N6 x, N6 y, N6 z]))], []⟩ ?_
 refine X.inline (f := 128) (l := [I6 f, .v (.agg #[N6 u, N3 s, N8 a, N6 x, N6 y, N6 z])]) (fn := Try.f128) (c := B128) (by kernel_rfl) (by kernel_rfl) Try.func128 (by kernel_rfl) ?_
 intro Q1 M1 hM1 hQ1 fin1
 refine Rb 10 (Qo B128 6 2) 0 [Qs B128 7] [(3, .own 3 0), (4, .own 4 0), (7, I1 (IntKind.u16.wrap f))] [] [(3, ⟨103, [I6 u, I3 s, I8 a, I6 x, I6 y, I6 z]⟩), (4, ⟨82, [I1 0, I1 0, I3 0, I3 0, I8 0, I8 0, I8 0, I1 0, I1 0, I1 0, VL none 0 0, VT ByteArray.empty]⟩)] [] ?_
 refine Kn 7 .u16 (f % 65536) rfl (u16_wrap f) ?_
 refine Ra 3 (Qo B128 6 5) 0 [] [(7, I1 (f % 65536)), (10, I3 (IntKind.u32.wrap u))] ?_
 refine Kn 10 .u32 (u % 4294967296) rfl (u32_wrap u) ?_
 refine Rb 12 (Qo B128 14 2) 1 [Qs B128 15] [(5, .own 5 0), (16, I3 s)] [] [(5, ⟨82, [I1 80, I1 (f % 65536), I3 0, I3 (u % 4294967296), I8 0, I8 a, I8 16, I1 65535, I1 0, I1 0, VL none 0 0, VT ByteArray.empty]⟩)] [] ?_
 refine Lt 17 29 1 2 [N3 s, N3 0] ?_
 intro A2
 refine Ra 1 (Qo B128 14 4) 0 [] [(18, .v (.agg #[N6 8, .slice A2 2 2, .string ByteArray.empty]))] ?_
 refine Lt 19 65 3 1 [N6 8, .slice A2 2 2, .string ByteArray.empty] ?_
 intro A3
 refine Rb 12 (Qo B128 60 5) 1 [Qs B128 61, Qs B128 31] [(25, VB (decide (x ≥ 0)))] [] [(5, ⟨82, [I1 80, I1 (f % 65536), I3 0, I3 (u % 4294967296), I8 0, I8 a, I8 16, I1 65535, I1 0, I1 0, VL A3 1 1, VT ByteArray.empty]⟩)] [] ?_
 refine Sd 25 rfl ?_ ?_ <;> intro h4
 ·
  refine Ra 6 (Qo B128 60 11) 0 [] [(31, VB (decide (y ≥ 0)))] ?_
  refine Sd 31 rfl ?_ ?_ <;> intro h5
  ·
   refine Ra 7 (Qc B128 61) 1 [] [(36, VB (decide (z ≥ 0)))] ?_
   refine Sd 36 rfl ?_ ?_ <;> intro h6
   ·
    have hb_ : (0 ≤ x ∧ 0 ≤ y ∧ 0 ≤ z) := by omega
    refine Ra 1 (Qc B128 122) 0 [] [] ?_
    refine Oh 4 B128 122 16 [⟨some 3, 3, 103, [I6 u, I3 s, I8 a, I6 x, I6 y, I6 z]⟩, ⟨some 5, 5, 82, [I1 80, I1 (f % 65536), I3 0, I3 (u % 4294967296), I8 0, I8 a, I8 16, I1 65535, I1 0, I1 0, VL A3 1 1, VT ByteArray.empty]⟩] [] [15] ⟨P1, P1, trivial⟩ Mt (fun ρ0 => ?_)
    refine Tk 0 16 1 B128 122 (.own 5 10) hQ1 ?_
    refine Tk 1 16 3 B128 122 (VL A3 1 1) hQ1 ?_
    refine Tk 2 16 7 B128 122 (.own 3 3) hQ1 ?_
    refine XD.ownIndex (i := 3) (l' := (lb 16 15)) (oA B128 (pa 122) 3) (t := 70) (e := 2) (len := 3) (b := 3) (off := 3) (j := 0) (m := 1) (ki := .i64) (x := .tmp 39) (ix := .const (N6 0)) hQ1 (by kernel_rfl) (by kernel_rfl) (by kernel_rfl) (by kernel_rfl) (by kernel_rfl) (by kernel_rfl) (by kernel_rfl) (by decide) (by kernel_rfl) (by kernel_rfl) ?_
    refine Tk 4 16 31 B128 122 (I6 x) hQ1 ?_
    refine Tk 5 16 63 B128 122 (.own 3 3) hQ1 ?_
    refine XD.ownIndex (i := 6) (l' := (lb 16 127)) (oA B128 (pa 122) 6) (t := 70) (e := 2) (len := 3) (b := 3) (off := 3) (j := 1) (m := 1) (ki := .i64) (x := .tmp 42) (ix := .const (N6 1)) hQ1 (by kernel_rfl) (by kernel_rfl) (by kernel_rfl) (by kernel_rfl) (by kernel_rfl) (by kernel_rfl) (by kernel_rfl) (by decide) (by kernel_rfl) (by kernel_rfl) ?_
    refine Tk 7 16 255 B128 122 (I6 y) hQ1 ?_
    refine Tk 8 16 511 B128 122 (.own 3 3) hQ1 ?_
    refine XD.ownIndex (i := 9) (l' := (lb 16 1023)) (oA B128 (pa 122) 9) (t := 70) (e := 2) (len := 3) (b := 3) (off := 3) (j := 2) (m := 1) (ki := .i64) (x := .tmp 45) (ix := .const (N6 2)) hQ1 (by kernel_rfl) (by kernel_rfl) (by kernel_rfl) (by kernel_rfl) (by kernel_rfl) (by kernel_rfl) (by kernel_rfl) (by decide) (by kernel_rfl) (by kernel_rfl) ?_
    refine Td [10] 16 2047 5 hQ1 [(38, VL A3 1 1), (41, I6 x), (44, I6 y), (47, I6 z)] ⟨P1, P1, trivial⟩ ?_
    refine Do 11 16 4095 B128 122 ?_
    refine Cg 57 [N6 172, N6 x, N6 y, N6 z, N6 3] 612 (rAcc_ok 172 x y z 3 (by assumption) (by assumption) (by assumption) (by decide) _) ?_
    rintro v8 G8 rows8 hG8 ⟨A8, c8, rfl, _, rfl⟩
    refine X.back ⟨⟨P1, P1, trivial⟩, hG8.le, rfl, ?_⟩
    refine Dn ⟨53, [(3, .own 3 0), (4, .own 4 0), (5, .own 5 0), (38, VL A3 1 1), (48, .v (.agg #[N6 (ak 172), .slice A8 ((al 172 x y z 3).length) c8, .string (⟨#[]⟩ : ByteArray)]))], [(3, ⟨103, [I6 u, I3 s, I8 a, I6 x, I6 y, I6 z]⟩), (4, ⟨82, [I1 0, I1 0, I3 0, I3 0, I8 0, I8 0, I8 0, I1 0, I1 0, I1 0, VL none 0 0, VT ByteArray.empty]⟩), (5, ⟨82, [I1 80, I1 (f % 65536), I3 0, I3 (u % 4294967296), I8 0, I8 a, I8 16, I1 65535, I1 0, I1 0, VL A3 1 1, VT ByteArray.empty]⟩)]⟩ ⟨P1, P1, trivial⟩ ?_
    refine Do 12 16 8191 B128 122 ?_
    refine Lt 49 65 3 1 [N6 (ak 172), .slice A8 ((al 172 x y z 3).length) c8, .string (⟨#[]⟩ : ByteArray)] ?_
    intro A9
    refine X.back ⟨⟨P1, P1, trivial⟩, hG8.le, rfl, ?_⟩
    refine Do 13 16 16383 B128 122 ?_
    refine Ap 19 _ 59 48 (.agg #[N6 0, .slice none 0 0, .string ByteArray.empty]) (.tmp 38) (.tmp 49) 1 1 1 1 A3 A9 [N6 (ak 172), .slice A8 ((al 172 x y z 3).length) c8, .string (⟨#[]⟩ : ByteArray)] (.inl rfl) (by kernel_rfl) (Ar 49 rfl) (Br 49 rfl) (ones (by kernel_rfl)) (by decide) ?_
    intro A10 c10 hc10
    refine Tr [19, 49, 612, 17] ?_
    refine X.back ⟨⟨P1, P1, trivial⟩, hG8.le, rfl, ?_⟩
    refine Ts [14] 16 32767 1 2 hQ1 ?_
    refine XD.toE ?_
    refine En ⟨53, [(3, .own 3 0), (4, .own 4 0), (5, .own 5 0), (50, VL A10 2 c10), (51, .own 5 10)], [(3, ⟨103, [I6 u, I3 s, I8 a, I6 x, I6 y, I6 z]⟩), (4, ⟨82, [I1 0, I1 0, I3 0, I3 0, I8 0, I8 0, I8 0, I1 0, I1 0, I1 0, VL none 0 0, VT ByteArray.empty]⟩), (5, ⟨82, [I1 80, I1 (f % 65536), I3 0, I3 (u % 4294967296), I8 0, I8 a, I8 16, I1 65535, I1 0, I1 0, VL A3 1 1, VT ByteArray.empty]⟩)]⟩ ?_
    refine Eo 15 16 65535 B128 122 ?_
    refine X.simple (by kernel_rfl) ?_
    refine X.back ?_
    refine XE.done (by kernel_rfl) ?_
    refine Rn 8 (.ex .ret) [] ⟨53, [(4, .own 4 0)], [(4, ⟨82, [I1 80, I1 (f % 65536), I3 0, I3 (u % 4294967296), I8 0, I8 a, I8 16, I1 65535, I1 0, I1 0, VL A10 2 c10, VT ByteArray.empty]⟩)]⟩ ?_
    refine fin1 _ _ _ _ [.agg #[N1 80, N1 (f % 65536), N3 0, N3 (u % 4294967296), N8 0, N8 a, N8 16, N1 65535, N1 0, N1 0, .slice A10 2 c10, .string ByteArray.empty]] [] (.inl rfl) (by kernel_rfl) (by kernel_rfl) ?_
    refine Ra 0 (Qo B74 6 5) 0 [] [(10, .v (.agg #[N1 80, N1 (f % 65536), N3 0, N3 (u % 4294967296), N8 0, N8 a, N8 16, N1 65535, N1 0, N1 0, .slice A10 2 c10, .string ByteArray.empty]))] ?_
    refine Tr [17, 19, 49, 612] ?_
    refine X.capLe (i := 17) rfl rfl ?_
    intro hle11 hmx11
    refine X.freezeHd (i := 17) (n := 2) (c := 2) (A := A2) (kd := .u32) ([s, 0]) rfl rfl ((by intro x_ hx_; simp only [List.mem_cons, List.not_mem_nil, or_false] at hx_; simp only [IntKind.lo, IntKind.hi]; omega)) (by kernel_rfl) (fun _ h => h) ?_
    intro G11 hG11 hr11
    refine Tr [612, 19, 49] ?_
    refine X.capLe (i := 612) rfl rfl ?_
    intro hle12 hmx12
    refine X.freezeHd (i := 612) (n := (al 172 x y z 3).length) (c := c8) (A := A8) (kd := .u32) (al 172 x y z 3) rfl rfl (al_range) (by kernel_rfl) (fun _ h => h) ?_
    intro G12 hG12 hr12
    replace hr11 := hr11.mono hG12.le
    refine Tr [19, 49] ?_
    refine X.capLe (i := 19) rfl rfl ?_
    intro hle13 hmx13
    refine X.freezeT (d := optD) (i := 19) (n := 2) (c := c10) (A := A10) ([(8, [s, 0], (⟨#[]⟩ : ByteArray)), (172, al 172 x y z 3, (⟨#[]⟩ : ByteArray))] : List Opt) rfl (by decide) (fun _ hl_ => ⟨_, _, rfl, opt_rep (k := 8) (by decide) (by first | exact hle11 | (simp; exact hle11)) hmx11 (hr11.mono hl_) (empty_rep _), ⟨_, _, rfl, opt_rep (k := 172) (by decide) (by first | exact hle12 | (simp; exact hle12)) hmx12 (hr12.mono hl_) (empty_rep _), rfl⟩⟩) (by kernel_rfl) (fun _ h => h) ?_
    intro G13 hG13 hr13
    replace hr11 := hr11.mono hG13.le
    replace hr12 := hr12.mono hG13.le
    refine Cg 67 [.agg #[N8 10, N8 0, N8 0, N8 2], .agg #[N8 10, N8 0, N8 0, N8 1], .agg #[N1 80, N1 (f % 65536), N3 0, N3 (u % 4294967296), N8 0, N8 a, N8 16, N1 65535, N1 0, N1 0, .slice A10 2 c10, .string ByteArray.empty]] 400 (RSegEnc_ok exW (hdW f u a) A10 c10 [(8, [s, 0], (⟨#[]⟩ : ByteArray)), (172, al 172 x y z 3, (⟨#[]⟩ : ByteArray))] (⟨#[]⟩ : ByteArray) _ exW_ok (hdW_ok ha) hr13 hle13 hmx13 (by simp) (by simp [al_172] <;> decide)) ?_
    rintro v14 G14 rows14 hG14 ⟨A14, c14, rfl, rfl⟩
    replace hr11 := hr11.mono hG14.le
    replace hr12 := hr12.mono hG14.le
    replace hr13 := hr13.mono hG14.le
    refine Rc 7 (.ex .ret) 1 [] [(4, VL A14 ((encS exW (hdW f u a) [(8, [s, 0], (⟨#[]⟩ : ByteArray)), (172, al 172 x y z 3, (⟨#[]⟩ : ByteArray))] (⟨#[]⟩ : ByteArray)).1.length) c14), (5, I6 ((encS exW (hdW f u a) [(8, [s, 0], (⟨#[]⟩ : ByteArray)), (172, al 172 x y z 3, (⟨#[]⟩ : ByteArray))] (⟨#[]⟩ : ByteArray)).2))] [6, 7, 10] ?_
    refine Dg (.inl rfl) [.slice A14 ((encS exW (hdW f u a) [(8, [s, 0], (⟨#[]⟩ : ByteArray)), (172, al 172 x y z 3, (⟨#[]⟩ : ByteArray))] (⟨#[]⟩ : ByteArray)).1.length) c14, N6 ((encS exW (hdW f u a) [(8, [s, 0], (⟨#[]⟩ : ByteArray)), (172, al 172 x y z 3, (⟨#[]⟩ : ByteArray))] (⟨#[]⟩ : ByteArray)).2)] [400] rfl (((((hG8.trans hG11).trans hG12).trans hG13).trans hG14)) ?_
    unfold wrP
    rw [opW_two hb_]
    exact ⟨_, _, rfl, rfl⟩
   ·
    have hb_ : ¬ (0 ≤ x ∧ 0 ≤ y ∧ 0 ≤ z) := by omega
    refine Rb 10 (.ex .ret) 1 [] [] [3, 5, 36] [(4, ⟨82, [I1 80, I1 (f % 65536), I3 0, I3 (u % 4294967296), I8 0, I8 a, I8 16, I1 65535, I1 0, I1 0, VL A3 1 1, VT ByteArray.empty]⟩)] [3, 5] ?_
    refine fin1 _ _ _ _ [.agg #[N1 80, N1 (f % 65536), N3 0, N3 (u % 4294967296), N8 0, N8 a, N8 16, N1 65535, N1 0, N1 0, .slice A3 1 1, .string ByteArray.empty]] [] (.inl rfl) (by kernel_rfl) (by kernel_rfl) ?_
    refine Ra 0 (Qo B74 6 5) 0 [] [(10, .v (.agg #[N1 80, N1 (f % 65536), N3 0, N3 (u % 4294967296), N8 0, N8 a, N8 16, N1 65535, N1 0, N1 0, .slice A3 1 1, .string ByteArray.empty]))] ?_
    refine Tr [17, 19] ?_
    refine X.capLe (i := 17) rfl rfl ?_
    intro hle15 hmx15
    refine X.freezeHd (i := 17) (n := 2) (c := 2) (A := A2) (kd := .u32) ([s, 0]) rfl rfl ((by intro x_ hx_; simp only [List.mem_cons, List.not_mem_nil, or_false] at hx_; simp only [IntKind.lo, IntKind.hi]; omega)) (by kernel_rfl) (fun _ h => h) ?_
    intro G15 hG15 hr15
    refine Tr [19] ?_
    refine X.capLe (i := 19) rfl rfl ?_
    intro hle16 hmx16
    refine X.freezeT (d := optD) (i := 19) (n := 1) (c := 1) (A := A3) ([(8, [s, 0], (⟨#[]⟩ : ByteArray))] : List Opt) rfl (by decide) (fun _ hl_ => ⟨_, _, rfl, opt_rep (k := 8) (by decide) (by first | exact hle15 | (simp; exact hle15)) hmx15 (hr15.mono hl_) (empty_rep _), rfl⟩) (by kernel_rfl) (fun _ h => h) ?_
    intro G16 hG16 hr16
    replace hr15 := hr15.mono hG16.le
    refine Cg 67 [.agg #[N8 10, N8 0, N8 0, N8 2], .agg #[N8 10, N8 0, N8 0, N8 1], .agg #[N1 80, N1 (f % 65536), N3 0, N3 (u % 4294967296), N8 0, N8 a, N8 16, N1 65535, N1 0, N1 0, .slice A3 1 1, .string ByteArray.empty]] 400 (RSegEnc_ok exW (hdW f u a) A3 1 [(8, [s, 0], (⟨#[]⟩ : ByteArray))] (⟨#[]⟩ : ByteArray) _ exW_ok (hdW_ok ha) hr16 hle16 hmx16 (by simp) (by simp [al_172] <;> decide)) ?_
    rintro v17 G17 rows17 hG17 ⟨A17, c17, rfl, rfl⟩
    replace hr15 := hr15.mono hG17.le
    replace hr16 := hr16.mono hG17.le
    refine Rc 7 (.ex .ret) 1 [] [(4, VL A17 ((encS exW (hdW f u a) [(8, [s, 0], (⟨#[]⟩ : ByteArray))] (⟨#[]⟩ : ByteArray)).1.length) c17), (5, I6 ((encS exW (hdW f u a) [(8, [s, 0], (⟨#[]⟩ : ByteArray))] (⟨#[]⟩ : ByteArray)).2))] [6, 7, 10] ?_
    refine Dg (.inl rfl) [.slice A17 ((encS exW (hdW f u a) [(8, [s, 0], (⟨#[]⟩ : ByteArray))] (⟨#[]⟩ : ByteArray)).1.length) c17, N6 ((encS exW (hdW f u a) [(8, [s, 0], (⟨#[]⟩ : ByteArray))] (⟨#[]⟩ : ByteArray)).2)] [400] rfl (((hG15.trans hG16).trans hG17)) ?_
    unfold wrP
    rw [opW_one hb_]
    exact ⟨_, _, rfl, rfl⟩
  ·
   have hb_ : ¬ (0 ≤ x ∧ 0 ≤ y ∧ 0 ≤ z) := by omega
   refine Rb 17 (.ex .ret) 2 [] [] [3, 5, 31] [(4, ⟨82, [I1 80, I1 (f % 65536), I3 0, I3 (u % 4294967296), I8 0, I8 a, I8 16, I1 65535, I1 0, I1 0, VL A3 1 1, VT ByteArray.empty]⟩)] [3, 5] ?_
   refine fin1 _ _ _ _ [.agg #[N1 80, N1 (f % 65536), N3 0, N3 (u % 4294967296), N8 0, N8 a, N8 16, N1 65535, N1 0, N1 0, .slice A3 1 1, .string ByteArray.empty]] [] (.inl rfl) (by kernel_rfl) (by kernel_rfl) ?_
   refine Ra 0 (Qo B74 6 5) 0 [] [(10, .v (.agg #[N1 80, N1 (f % 65536), N3 0, N3 (u % 4294967296), N8 0, N8 a, N8 16, N1 65535, N1 0, N1 0, .slice A3 1 1, .string ByteArray.empty]))] ?_
   refine Tr [17, 19] ?_
   refine X.capLe (i := 17) rfl rfl ?_
   intro hle18 hmx18
   refine X.freezeHd (i := 17) (n := 2) (c := 2) (A := A2) (kd := .u32) ([s, 0]) rfl rfl ((by intro x_ hx_; simp only [List.mem_cons, List.not_mem_nil, or_false] at hx_; simp only [IntKind.lo, IntKind.hi]; omega)) (by kernel_rfl) (fun _ h => h) ?_
   intro G18 hG18 hr18
   refine Tr [19] ?_
   refine X.capLe (i := 19) rfl rfl ?_
   intro hle19 hmx19
   refine X.freezeT (d := optD) (i := 19) (n := 1) (c := 1) (A := A3) ([(8, [s, 0], (⟨#[]⟩ : ByteArray))] : List Opt) rfl (by decide) (fun _ hl_ => ⟨_, _, rfl, opt_rep (k := 8) (by decide) (by first | exact hle18 | (simp; exact hle18)) hmx18 (hr18.mono hl_) (empty_rep _), rfl⟩) (by kernel_rfl) (fun _ h => h) ?_
   intro G19 hG19 hr19
   replace hr18 := hr18.mono hG19.le
   refine Cg 67 [.agg #[N8 10, N8 0, N8 0, N8 2], .agg #[N8 10, N8 0, N8 0, N8 1], .agg #[N1 80, N1 (f % 65536), N3 0, N3 (u % 4294967296), N8 0, N8 a, N8 16, N1 65535, N1 0, N1 0, .slice A3 1 1, .string ByteArray.empty]] 400 (RSegEnc_ok exW (hdW f u a) A3 1 [(8, [s, 0], (⟨#[]⟩ : ByteArray))] (⟨#[]⟩ : ByteArray) _ exW_ok (hdW_ok ha) hr19 hle19 hmx19 (by simp) (by simp [al_172] <;> decide)) ?_
   rintro v20 G20 rows20 hG20 ⟨A20, c20, rfl, rfl⟩
   replace hr18 := hr18.mono hG20.le
   replace hr19 := hr19.mono hG20.le
   refine Rc 7 (.ex .ret) 1 [] [(4, VL A20 ((encS exW (hdW f u a) [(8, [s, 0], (⟨#[]⟩ : ByteArray))] (⟨#[]⟩ : ByteArray)).1.length) c20), (5, I6 ((encS exW (hdW f u a) [(8, [s, 0], (⟨#[]⟩ : ByteArray))] (⟨#[]⟩ : ByteArray)).2))] [6, 7, 10] ?_
   refine Dg (.inl rfl) [.slice A20 ((encS exW (hdW f u a) [(8, [s, 0], (⟨#[]⟩ : ByteArray))] (⟨#[]⟩ : ByteArray)).1.length) c20, N6 ((encS exW (hdW f u a) [(8, [s, 0], (⟨#[]⟩ : ByteArray))] (⟨#[]⟩ : ByteArray)).2)] [400] rfl (((hG18.trans hG19).trans hG20)) ?_
   unfold wrP
   rw [opW_one hb_]
   exact ⟨_, _, rfl, rfl⟩
 ·
  have hb_ : ¬ (0 ≤ x ∧ 0 ≤ y ∧ 0 ≤ z) := by omega
  refine Rb 23 (.ex .ret) 2 [] [] [3, 5, 25] [(4, ⟨82, [I1 80, I1 (f % 65536), I3 0, I3 (u % 4294967296), I8 0, I8 a, I8 16, I1 65535, I1 0, I1 0, VL A3 1 1, VT ByteArray.empty]⟩)] [3, 5] ?_
  refine fin1 _ _ _ _ [.agg #[N1 80, N1 (f % 65536), N3 0, N3 (u % 4294967296), N8 0, N8 a, N8 16, N1 65535, N1 0, N1 0, .slice A3 1 1, .string ByteArray.empty]] [] (.inl rfl) (by kernel_rfl) (by kernel_rfl) ?_
  refine Ra 0 (Qo B74 6 5) 0 [] [(10, .v (.agg #[N1 80, N1 (f % 65536), N3 0, N3 (u % 4294967296), N8 0, N8 a, N8 16, N1 65535, N1 0, N1 0, .slice A3 1 1, .string ByteArray.empty]))] ?_
  refine Tr [17, 19] ?_
  refine X.capLe (i := 17) rfl rfl ?_
  intro hle21 hmx21
  refine X.freezeHd (i := 17) (n := 2) (c := 2) (A := A2) (kd := .u32) ([s, 0]) rfl rfl ((by intro x_ hx_; simp only [List.mem_cons, List.not_mem_nil, or_false] at hx_; simp only [IntKind.lo, IntKind.hi]; omega)) (by kernel_rfl) (fun _ h => h) ?_
  intro G21 hG21 hr21
  refine Tr [19] ?_
  refine X.capLe (i := 19) rfl rfl ?_
  intro hle22 hmx22
  refine X.freezeT (d := optD) (i := 19) (n := 1) (c := 1) (A := A3) ([(8, [s, 0], (⟨#[]⟩ : ByteArray))] : List Opt) rfl (by decide) (fun _ hl_ => ⟨_, _, rfl, opt_rep (k := 8) (by decide) (by first | exact hle21 | (simp; exact hle21)) hmx21 (hr21.mono hl_) (empty_rep _), rfl⟩) (by kernel_rfl) (fun _ h => h) ?_
  intro G22 hG22 hr22
  replace hr21 := hr21.mono hG22.le
  refine Cg 67 [.agg #[N8 10, N8 0, N8 0, N8 2], .agg #[N8 10, N8 0, N8 0, N8 1], .agg #[N1 80, N1 (f % 65536), N3 0, N3 (u % 4294967296), N8 0, N8 a, N8 16, N1 65535, N1 0, N1 0, .slice A3 1 1, .string ByteArray.empty]] 400 (RSegEnc_ok exW (hdW f u a) A3 1 [(8, [s, 0], (⟨#[]⟩ : ByteArray))] (⟨#[]⟩ : ByteArray) _ exW_ok (hdW_ok ha) hr22 hle22 hmx22 (by simp) (by simp [al_172] <;> decide)) ?_
  rintro v23 G23 rows23 hG23 ⟨A23, c23, rfl, rfl⟩
  replace hr21 := hr21.mono hG23.le
  replace hr22 := hr22.mono hG23.le
  refine Rc 7 (.ex .ret) 1 [] [(4, VL A23 ((encS exW (hdW f u a) [(8, [s, 0], (⟨#[]⟩ : ByteArray))] (⟨#[]⟩ : ByteArray)).1.length) c23), (5, I6 ((encS exW (hdW f u a) [(8, [s, 0], (⟨#[]⟩ : ByteArray))] (⟨#[]⟩ : ByteArray)).2))] [6, 7, 10] ?_
  refine Dg (.inl rfl) [.slice A23 ((encS exW (hdW f u a) [(8, [s, 0], (⟨#[]⟩ : ByteArray))] (⟨#[]⟩ : ByteArray)).1.length) c23, N6 ((encS exW (hdW f u a) [(8, [s, 0], (⟨#[]⟩ : ByteArray))] (⟨#[]⟩ : ByteArray)).2)] [400] rfl (((hG21.trans hG22).trans hG23)) ?_
  unfold wrP
  rw [opW_one hb_]
  exact ⟨_, _, rfl, rfl⟩
end Go.Proofs.YtjgpdbkkpomhjaaX
