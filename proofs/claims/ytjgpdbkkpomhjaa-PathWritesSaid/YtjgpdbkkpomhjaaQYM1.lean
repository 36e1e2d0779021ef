/- A part of a law's proof. Conditions: none. -/
import Derived.Test.YtjgpdbkkpomhjaaProg
import Derived.KernelRfl
import Derived.Test.YtjgpdbkkpomhjaaQYM0
import Derived.Test.YtjgpdbkkpomhjaaQYG2
import Derived.Test.YtjgpdbkkpomhjaaQYT
namespace Go.Proofs.YtjgpdbkkpomhjaaX
open Go.RowKit
open Go.Proofs.YtjgpdbkkpomhjaaW.PrintLast
set_option linter.unusedVariables false
set_option linter.unusedSimpArgs false
set_option maxRecDepth 100000
set_option maxHeartbeats 1000000 in
theorem ends_ok (G : Mem) : CallsG Try.prog 127 [] G (fun _ v rows => v = .tuple #[.agg #[.int .u8 10, .int .u8 0, .int .u8 0, .int .u8 2], .agg #[.int .u8 10, .int .u8 0, .int .u8 0, .int .u8 1]] ∧ rows = []) := by
 refine CallsG.enter Try.func127 rfl rfl ?_
 intro w
 refine Rn 15 (.ex .ret) [] ⟨4, [(0, .own 0 0), (1, .own 1 0)], [(0, ⟨55, [I8 10, I8 0, I8 0, I8 2]⟩), (1, ⟨55, [I8 10, I8 0, I8 0, I8 1]⟩)]⟩ ?_
 refine Dg (.inl rfl) [.agg #[N8 10, N8 0, N8 0, N8 2], .agg #[N8 10, N8 0, N8 0, N8 1]] [] rfl (Ge.refl _ _) ?_
 exact ⟨rfl, rfl⟩
noncomputable def B73 : Code := bodyOf Try.f73
set_option maxHeartbeats 2000000 in
theorem Write_ok (f u s a x y z : Int) (G : Mem) (hs : 0 ≤ s ∧ s ≤ 4294967295) (ha : 0 ≤ a ∧ a ≤ 255) (hx : (-9223372036854775808 ≤ x ∧ x ≤ 9223372036854775807)) (hy : (-9223372036854775808 ≤ y ∧ y ≤ 9223372036854775807)) (hz : (-9223372036854775808 ≤ z ∧ z ≤ 9223372036854775807)) : CallsG Try.prog 73 [.int .i64 f, .agg #[.int .i64 u, .int .u32 s, .int .u8 a, .int .i64 x, .int .i64 y, .int .i64 z]] G (fun _ v rows => ∃ A' c', v = .tuple #[.slice A' (wrP f ⟨u, s, a, x, y, z⟩).1.length c', .int .i64 (wrP f ⟨u, s, a, x, y, z⟩).2] ∧ rows = [⟨5, 1, .slice A' (wrP f ⟨u, s, a, x, y, z⟩).1.length c', (wrP f ⟨u, s, a, x, y, z⟩).1.length, (wrP f ⟨u, s, a, x, y, z⟩).1.map (Value.int .u8)⟩]) := by
 refine CallsG.enter Try.func73 rfl rfl ?_
 intro w
 refine Rn 11 (Qo B73 6 2) [Qs B73 7] ⟨59, [(3, .own 3 0), (4, VL none 0 0), (5, I6 0), (10, I1 (IntKind.u16.wrap f))], [(3, ⟨103, [I6 u, I3 s, I8 a, I6 x, I6 y, I6 z]⟩)]⟩ ?_
 refine Kn 10 .u16 (f % 65536) rfl (u16_wrap f) ?_
 refine Ra 3 (Qo B73 6 5) 0 [] [(10, I1 (f % 65536)), (13, I3 (IntKind.u32.wrap u))] ?_
 refine Kn 13 .u32 (u % 4294967296) rfl (u32_wrap u) ?_
 refine Ra 5 (Qo B73 6 10) 0 [] [(16, .v (.agg #[N1 80, N1 (f % 65536), N3 0, N3 (u % 4294967296), N8 0, N8 a, N8 16, N1 65535, N1 0, N1 0])), (18, I3 s)] ?_
 refine Lt 19 29 1 2 [N3 s, N3 0] ?_
 intro A1
 refine Ra 1 (Qo B73 6 12) 0 [] [(20, .v (.agg #[N6 8, .slice A1 2 2, .string ByteArray.empty]))] ?_
 refine Lt 21 65 3 1 [N6 8, .slice A1 2 2, .string ByteArray.empty] ?_
 intro A2
 refine Rb 18 (Qo B73 28 10) 1 [Qs B73 29, Qs B73 15] [(6, .own 6 0), (32, I6 (imin (imin x y) z))] [] [(6, ⟨82, [I1 80, I1 (f % 65536), I3 0, I3 (u % 4294967296), I8 0, I8 a, I8 16, I1 65535, I1 0, I1 0, VL A2 1 1, VT ByteArray.empty]⟩)] [] ?_
 refine Kn 32 .i64 (min (min x y) z) rfl (by simp only [imin_eq, imax_eq]) ?_
 refine Ra 3 (Qc B73 29) 1 [] [(33, VB (decide (min (min x y) z ≥ 0)))] ?_
 refine Sd 33 rfl ?_ ?_ <;> intro h3
 ·
  have hb_ : (0 ≤ x ∧ 0 ≤ y ∧ 0 ≤ z) := by omega
  refine Ra 1 (Qc B73 58) 0 [] [] ?_
  refine Oh 3 B73 58 16 [⟨some 3, 3, 103, [I6 u, I3 s, I8 a, I6 x, I6 y, I6 z]⟩, ⟨some 6, 6, 82, [I1 80, I1 (f % 65536), I3 0, I3 (u % 4294967296), I8 0, I8 a, I8 16, I1 65535, I1 0, I1 0, VL A2 1 1, VT ByteArray.empty]⟩] [] [15] ⟨P1, P1, trivial⟩ Mt (fun ρ0 => ?_)
  refine Tk 0 16 1 B73 58 (.own 6 10) QOk.ctxG ?_
  refine Tk 1 16 3 B73 58 (VL A2 1 1) QOk.ctxG ?_
  refine Tk 2 16 7 B73 58 (.own 3 3) QOk.ctxG ?_
  refine XD.ownIndex (i := 3) (l' := (lb 16 15)) (oA B73 (pa 58) 3) (t := 70) (e := 2) (len := 3) (b := 3) (off := 3) (j := 0) (m := 1) (ki := .i64) (x := .tmp 36) (ix := .const (N6 0)) QOk.ctxG (by kernel_rfl) (by kernel_rfl) (by kernel_rfl) (by kernel_rfl) (by kernel_rfl) (by kernel_rfl) (by kernel_rfl) (by decide) (by kernel_rfl) (by kernel_rfl) ?_
  refine Tk 4 16 31 B73 58 (I6 x) QOk.ctxG ?_
  refine Tk 5 16 63 B73 58 (.own 3 3) QOk.ctxG ?_
  refine XD.ownIndex (i := 6) (l' := (lb 16 127)) (oA B73 (pa 58) 6) (t := 70) (e := 2) (len := 3) (b := 3) (off := 3) (j := 1) (m := 1) (ki := .i64) (x := .tmp 39) (ix := .const (N6 1)) QOk.ctxG (by kernel_rfl) (by kernel_rfl) (by kernel_rfl) (by kernel_rfl) (by kernel_rfl) (by kernel_rfl) (by kernel_rfl) (by decide) (by kernel_rfl) (by kernel_rfl) ?_
  refine Tk 7 16 255 B73 58 (I6 y) QOk.ctxG ?_
  refine Tk 8 16 511 B73 58 (.own 3 3) QOk.ctxG ?_
  refine XD.ownIndex (i := 9) (l' := (lb 16 1023)) (oA B73 (pa 58) 9) (t := 70) (e := 2) (len := 3) (b := 3) (off := 3) (j := 2) (m := 1) (ki := .i64) (x := .tmp 42) (ix := .const (N6 2)) QOk.ctxG (by kernel_rfl) (by kernel_rfl) (by kernel_rfl) (by kernel_rfl) (by kernel_rfl) (by kernel_rfl) (by kernel_rfl) (by decide) (by kernel_rfl) (by kernel_rfl) ?_
  refine Td [10] 16 2047 5 QOk.ctxG [(35, VL A2 1 1), (38, I6 x), (41, I6 y), (44, I6 z)] ⟨P1, P1, trivial⟩ ?_
  refine Do 11 16 4095 B73 58 ?_
  refine Cg 56 [N6 172, N6 x, N6 y, N6 z, N6 3] 612 (Acc_ok 172 x y z 3 (by assumption) (by assumption) (by assumption) (by decide) _) ?_
  rintro v5 G5 rows5 hG5 ⟨A5, c5, rfl, _, rfl⟩
  refine X.back ⟨⟨P1, P1, trivial⟩, hG5.le, rfl, ?_⟩
  refine Dn ⟨59, [(3, .own 3 0), (4, VL none 0 0), (5, I6 0), (6, .own 6 0), (35, VL A2 1 1), (45, .v (.agg #[N6 (ak 172), .slice A5 ((al 172 x y z 3).length) c5, .string (⟨#[]⟩ : ByteArray)]))], [(3, ⟨103, [I6 u, I3 s, I8 a, I6 x, I6 y, I6 z]⟩), (6, ⟨82, [I1 80, I1 (f % 65536), I3 0, I3 (u % 4294967296), I8 0, I8 a, I8 16, I1 65535, I1 0, I1 0, VL A2 1 1, VT ByteArray.empty]⟩)]⟩ ⟨P1, P1, trivial⟩ ?_
  refine Do 12 16 8191 B73 58 ?_
  refine Lt 46 65 3 1 [N6 (ak 172), .slice A5 ((al 172 x y z 3).length) c5, .string (⟨#[]⟩ : ByteArray)] ?_
  intro A6
  refine X.back ⟨⟨P1, P1, trivial⟩, hG5.le, rfl, ?_⟩
  refine Do 13 16 16383 B73 58 ?_
  refine Ap 21 _ 59 48 (.agg #[N6 0, .slice none 0 0, .string ByteArray.empty]) (.tmp 35) (.tmp 46) 1 1 1 1 A2 A6 [N6 (ak 172), .slice A5 ((al 172 x y z 3).length) c5, .string (⟨#[]⟩ : ByteArray)] (.inl rfl) (by kernel_rfl) (Ar 46 rfl) (Br 46 rfl) (ones (by kernel_rfl)) (by decide) ?_
  intro A7 c7 hc7
  refine Tr [21, 46, 612, 19] ?_
  refine X.back ⟨⟨P1, P1, trivial⟩, hG5.le, rfl, ?_⟩
  refine Ts [14] 16 32767 1 2 QOk.ctxG ?_
  refine XD.toE ?_
  refine En ⟨59, [(3, .own 3 0), (4, VL none 0 0), (5, I6 0), (6, .own 6 0), (47, VL A7 2 c7), (48, .own 6 10)], [(3, ⟨103, [I6 u, I3 s, I8 a, I6 x, I6 y, I6 z]⟩), (6, ⟨82, [I1 80, I1 (f % 65536), I3 0, I3 (u % 4294967296), I8 0, I8 a, I8 16, I1 65535, I1 0, I1 0, VL A2 1 1, VT ByteArray.empty]⟩)]⟩ ?_
  refine Eo 15 16 65535 B73 58 ?_
  refine X.simple (by kernel_rfl) ?_
  refine X.back ?_
  refine XE.done (by kernel_rfl) ?_
  refine Rb 3 (Qo B73 30 0) 1 [Qs B73 31] [] [] [(6, ⟨82, [I1 80, I1 (f % 65536), I3 0, I3 (u % 4294967296), I8 0, I8 a, I8 16, I1 65535, I1 0, I1 0, VL A7 2 c7, VT ByteArray.empty]⟩)] [3] ?_
  refine Cg 127 [] 0 (ends_ok _) ?_
  rintro v8 G8 rows8 hG8 ⟨rfl, rfl⟩
  refine Rb 14 (Qo B73 62 3) 1 [Qs B73 63] [(53, .v (.agg #[N8 10, N8 0, N8 0, N8 2])), (54, .v (.agg #[N8 10, N8 0, N8 0, N8 1])), (55, .v (.agg #[N1 80, N1 (f % 65536), N3 0, N3 (u % 4294967296), N8 0, N8 a, N8 16, N1 65535, N1 0, N1 0, .slice A7 2 c7, .string ByteArray.empty]))] [] [] [6] ?_
  refine Tr [19, 21, 46, 612] ?_
  refine X.capLe (i := 19) rfl rfl ?_
  intro hle9 hmx9
  refine X.freezeHd (i := 19) (n := 2) (c := 2) (A := A1) (kd := .u32) ([s, 0]) rfl rfl ((by intro x_ hx_; simp only [List.mem_cons, List.not_mem_nil, or_false] at hx_; simp only [IntKind.lo, IntKind.hi]; omega)) (by kernel_rfl) (fun _ h => h) ?_
  intro G9 hG9 hr9
  refine Tr [612, 21, 46] ?_
  refine X.capLe (i := 612) rfl rfl ?_
  intro hle10 hmx10
  refine X.freezeHd (i := 612) (n := (al 172 x y z 3).length) (c := c5) (A := A5) (kd := .u32) (al 172 x y z 3) rfl rfl (al_range) (by kernel_rfl) (fun _ h => h) ?_
  intro G10 hG10 hr10
  replace hr9 := hr9.mono hG10.le
  refine Tr [21, 46] ?_
  refine X.capLe (i := 21) rfl rfl ?_
  intro hle11 hmx11
  refine X.freezeT (d := optD) (i := 21) (n := 2) (c := c7) (A := A7) ([(8, [s, 0], (⟨#[]⟩ : ByteArray)), (172, al 172 x y z 3, (⟨#[]⟩ : ByteArray))] : List Opt) rfl (by decide) (fun _ hl_ => ⟨_, _, rfl, opt_rep (k := 8) (by decide) (by first | exact hle9 | (simp; exact hle9)) hmx9 (hr9.mono hl_) (empty_rep _), ⟨_, _, rfl, opt_rep (k := 172) (by decide) (by first | exact hle10 | (simp; exact hle10)) hmx10 (hr10.mono hl_) (empty_rep _), rfl⟩⟩) (by kernel_rfl) (fun _ h => h) ?_
  intro G11 hG11 hr11
  replace hr9 := hr9.mono hG11.le
  replace hr10 := hr10.mono hG11.le
  refine Cg 66 [.agg #[N8 10, N8 0, N8 0, N8 2], .agg #[N8 10, N8 0, N8 0, N8 1], .agg #[N1 80, N1 (f % 65536), N3 0, N3 (u % 4294967296), N8 0, N8 a, N8 16, N1 65535, N1 0, N1 0, .slice A7 2 c7, .string ByteArray.empty]] 400 (SegEnc_ok exW (hdW f u a) A7 c7 [(8, [s, 0], (⟨#[]⟩ : ByteArray)), (172, al 172 x y z 3, (⟨#[]⟩ : ByteArray))] (⟨#[]⟩ : ByteArray) _ exW_ok (hdW_ok ha) hr11 hle11 hmx11) ?_
  rintro v12 G12 rows12 hG12 ⟨A12, c12, rfl, rfl⟩
  replace hr9 := hr9.mono hG12.le
  replace hr10 := hr10.mono hG12.le
  replace hr11 := hr11.mono hG12.le
  refine Rn 7 (.ex .ret) [] ⟨59, [(4, VL A12 ((encS exW (hdW f u a) [(8, [s, 0], (⟨#[]⟩ : ByteArray)), (172, al 172 x y z 3, (⟨#[]⟩ : ByteArray))] (⟨#[]⟩ : ByteArray)).1.length) c12), (5, I6 ((encS exW (hdW f u a) [(8, [s, 0], (⟨#[]⟩ : ByteArray)), (172, al 172 x y z 3, (⟨#[]⟩ : ByteArray))] (⟨#[]⟩ : ByteArray)).2))], []⟩ ?_
  refine Dg (.inl rfl) [.slice A12 ((encS exW (hdW f u a) [(8, [s, 0], (⟨#[]⟩ : ByteArray)), (172, al 172 x y z 3, (⟨#[]⟩ : ByteArray))] (⟨#[]⟩ : ByteArray)).1.length) c12, N6 ((encS exW (hdW f u a) [(8, [s, 0], (⟨#[]⟩ : ByteArray)), (172, al 172 x y z 3, (⟨#[]⟩ : ByteArray))] (⟨#[]⟩ : ByteArray)).2)] [400] rfl ((((((hG5.trans hG8).trans hG9).trans hG10).trans hG11).trans hG12)) ?_
  unfold wrP
  rw [opW_two hb_]
  exact ⟨_, _, rfl, rfl⟩
 ·
  have hb_ : ¬ (0 ≤ x ∧ 0 ≤ y ∧ 0 ≤ z) := by omega
  refine Rb 5 (Qo B73 30 0) 1 [Qs B73 31] [] [] [] [3] ?_
  refine Cg 127 [] 0 (ends_ok _) ?_
  rintro v13 G13 rows13 hG13 ⟨rfl, rfl⟩
  refine Rb 14 (Qo B73 62 3) 1 [Qs B73 63] [(53, .v (.agg #[N8 10, N8 0, N8 0, N8 2])), (54, .v (.agg #[N8 10, N8 0, N8 0, N8 1])), (55, .v (.agg #[N1 80, N1 (f % 65536), N3 0, N3 (u % 4294967296), N8 0, N8 a, N8 16, N1 65535, N1 0, N1 0, .slice A2 1 1, .string ByteArray.empty]))] [] [] [6] ?_
  refine Tr [19, 21] ?_
  refine X.capLe (i := 19) rfl rfl ?_
  intro hle14 hmx14
  refine X.freezeHd (i := 19) (n := 2) (c := 2) (A := A1) (kd := .u32) ([s, 0]) rfl rfl ((by intro x_ hx_; simp only [List.mem_cons, List.not_mem_nil, or_false] at hx_; simp only [IntKind.lo, IntKind.hi]; omega)) (by kernel_rfl) (fun _ h => h) ?_
  intro G14 hG14 hr14
  refine Tr [21] ?_
  refine X.capLe (i := 21) rfl rfl ?_
  intro hle15 hmx15
  refine X.freezeT (d := optD) (i := 21) (n := 1) (c := 1) (A := A2) ([(8, [s, 0], (⟨#[]⟩ : ByteArray))] : List Opt) rfl (by decide) (fun _ hl_ => ⟨_, _, rfl, opt_rep (k := 8) (by decide) (by first | exact hle14 | (simp; exact hle14)) hmx14 (hr14.mono hl_) (empty_rep _), rfl⟩) (by kernel_rfl) (fun _ h => h) ?_
  intro G15 hG15 hr15
  replace hr14 := hr14.mono hG15.le
  refine Cg 66 [.agg #[N8 10, N8 0, N8 0, N8 2], .agg #[N8 10, N8 0, N8 0, N8 1], .agg #[N1 80, N1 (f % 65536), N3 0, N3 (u % 4294967296), N8 0, N8 a, N8 16, N1 65535, N1 0, N1 0, .slice A2 1 1, .string ByteArray.empty]] 400 (SegEnc_ok exW (hdW f u a) A2 1 [(8, [s, 0], (⟨#[]⟩ : ByteArray))] (⟨#[]⟩ : ByteArray) _ exW_ok (hdW_ok ha) hr15 hle15 hmx15) ?_
  rintro v16 G16 rows16 hG16 ⟨A16, c16, rfl, rfl⟩
  replace hr14 := hr14.mono hG16.le
  replace hr15 := hr15.mono hG16.le
  refine Rn 7 (.ex .ret) [] ⟨59, [(4, VL A16 ((encS exW (hdW f u a) [(8, [s, 0], (⟨#[]⟩ : ByteArray))] (⟨#[]⟩ : ByteArray)).1.length) c16), (5, I6 ((encS exW (hdW f u a) [(8, [s, 0], (⟨#[]⟩ : ByteArray))] (⟨#[]⟩ : ByteArray)).2))], []⟩ ?_
  refine Dg (.inl rfl) [.slice A16 ((encS exW (hdW f u a) [(8, [s, 0], (⟨#[]⟩ : ByteArray))] (⟨#[]⟩ : ByteArray)).1.length) c16, N6 ((encS exW (hdW f u a) [(8, [s, 0], (⟨#[]⟩ : ByteArray))] (⟨#[]⟩ : ByteArray)).2)] [400] rfl ((((hG13.trans hG14).trans hG15).trans hG16)) ?_
  unfold wrP
  rw [opW_one hb_]
  exact ⟨_, _, rfl, rfl⟩
end Go.Proofs.YtjgpdbkkpomhjaaX
