/- leatlaw13.SegmentBack. Walked; printed by a small program of this session. Conditions: none. -/
import Derived.Test.YtjgpdbkkpomhjaaProg
import Derived.KernelRfl
import Derived.Test.YtjgpdbkkpomhjaaYG5
import Derived.Test.YtjgpdbkkpomhjaaXF
namespace Go.Proofs.YtjgpdbkkpomhjaaX
open Go.RowKit
open Go.Proofs.YtjgpdbkkpomhjaaW.PrintLast
set_option linter.unusedVariables false
set_option linter.unusedSimpArgs false
set_option maxRecDepth 100000
/-- leat/leatlaw13.SegmentBack -/
noncomputable def B16 : Code := bodyOf Try.f16
set_option maxHeartbeats 1000000 in
theorem SegmentBack_ok (a : Ad) (h : Hd) (A : Option Addr) (c : Nat) (xs : List Opt) (d : ByteArray) (G : Mem) (ha : a.ok) (hh : h.ok) (hr : rowAt optD G A xs) (hle : xs.length ≤ c) (hmx : c ≤ maxLen) (hd : d.size ≤ maxLen) : CallsG Try.prog 16 [.agg #[.int .u8 a.a0, .int .u8 a.a1, .int .u8 a.a2, .int .u8 a.a3, .int .u8 a.b0, .int .u8 a.b1, .int .u8 a.b2, .int .u8 a.b3], .agg #[.int .u16 h.s0, .int .u16 h.s1, .int .u32 h.s2, .int .u32 h.s3, .int .u8 h.s4, .int .u8 h.s5, .int .u8 h.s6, .int .u16 h.s7, .int .u16 h.s8, .int .u16 h.s9, .slice A xs.length c, .string d]] G (fun _ v rows => v = .bool true ∧ rows = []) := by
 simp only [maxLen] at hmx hd
 refine CallsG.enter Try.func16 rfl rfl ?_
 intro w
 refine Rn 10 (Qo B16 6 1) [Qs B16 7] ⟨69, [(2, .own 2 0), (3, .own 3 0), (4, VB false), (9, .v (.agg #[N1 h.s0, N1 h.s1, N3 h.s2, N3 h.s3, N8 h.s4, N8 h.s5, N8 h.s6, N1 h.s7, N1 h.s8, N1 h.s9, .slice A xs.length c, .string d]))], [(2, ⟨56, [I8 a.a0, I8 a.a1, I8 a.a2, I8 a.a3, I8 a.b0, I8 a.b1, I8 a.b2, I8 a.b3]⟩), (3, ⟨82, [I1 h.s0, I1 h.s1, I3 h.s2, I3 h.s3, I8 h.s4, I8 h.s5, I8 h.s6, I1 h.s7, I1 h.s8, I1 h.s9, VL A xs.length c, VT d]⟩)]⟩ ?_
 refine Cg 65 [.agg #[N1 h.s0, N1 h.s1, N3 h.s2, N3 h.s3, N8 h.s4, N8 h.s5, N8 h.s6, N1 h.s7, N1 h.s8, N1 h.s9, .slice A xs.length c, .string d]] 420 (few_ok h A c xs d _ hr hle hmx (by simp only [maxLen]; omega)) ?_
 rintro v1 G1 rows1 hG1 ⟨A1, c1, cs1, rfl, rfl, hcs1⟩
 replace hr := hr.mono hG1.le
 refine X.asR (R' := [(420, RR 65 3 A1 ((fewO xs).length) c1 cs1)]) rfl ?_
 refine X.tellR [420] (R' := [(420, RR 65 3 A1 ((fewO xs).length) c1 cs1)]) rfl ?_
 refine X.capLe (i := 420) (q := (RR 65 3 A1 ((fewO xs).length) c1 cs1)) (n := (fewO xs).length) (c := c1) (A := A1) rfl rfl ?_
 intro hle2 hmx2
 refine X.freezeD (d := optD) (i := 420) (n := (fewO xs).length) (c := c1) (A := A1) (fewO xs) rfl hcs1 (by decide) (by kernel_rfl) (fun _ h => h) ?_
 intro G2 hG2 hr2
 replace hr := hr.mono hG2.le
 have hfz_ := fewD_size d
 refine Rn 10 (Qo B16 14 5) [Qs B16 15] ⟨69, [(2, .own 2 0), (3, .own 3 0), (4, VB false), (13, .v (.agg #[N8 a.a0, N8 a.a1, N8 a.a2, N8 a.a3])), (15, .v (.agg #[N8 a.b0, N8 a.b1, N8 a.b2, N8 a.b3])), (16, .v (.agg #[N1 h.s0, N1 h.s1, N3 h.s2, N3 h.s3, N8 h.s4, N8 h.s5, N8 h.s6, N1 h.s7, N1 h.s8, N1 h.s9, .slice A1 ((fewO xs).length) c1, .string (fewD d)]))], [(2, ⟨56, [I8 a.a0, I8 a.a1, I8 a.a2, I8 a.a3, I8 a.b0, I8 a.b1, I8 a.b2, I8 a.b3]⟩), (3, ⟨82, [I1 h.s0, I1 h.s1, I3 h.s2, I3 h.s3, I8 h.s4, I8 h.s5, I8 h.s6, I1 h.s7, I1 h.s8, I1 h.s9, VL A1 ((fewO xs).length) c1, VT (fewD d)]⟩)]⟩ ?_
 refine Cg 66 [.agg #[N8 a.a0, N8 a.a1, N8 a.a2, N8 a.a3], .agg #[N8 a.b0, N8 a.b1, N8 a.b2, N8 a.b3], .agg #[N1 h.s0, N1 h.s1, N3 h.s2, N3 h.s3, N8 h.s4, N8 h.s5, N8 h.s6, N1 h.s7, N1 h.s8, N1 h.s9, .slice A1 ((fewO xs).length) c1, .string (fewD d)]] 400 (SegEnc_ok a h A1 c1 (fewO xs) (fewD d) _ ha hh hr2 hle2 hmx2) ?_
 rintro v3 G3 rows3 hG3 ⟨A3, c3, rfl, rfl⟩
 replace hr := hr.mono hG3.le
 replace hr2 := hr2.mono hG3.le
 refine X.asR (R' := [(400, RR 5 1 A3 ((encS a h (fewO xs) (fewD d)).1.length) c3 (((encS a h (fewO xs) (fewD d)).1).map (Value.int .u8)))]) rfl ?_
 refine Rn 14 (Qc B16 61) [Qs B16 31] ⟨69, [(2, .own 2 0), (3, .own 3 0), (4, VB false), (5, VL A3 ((encS a h (fewO xs) (fewD d)).1.length) c3), (21, VB (((encS a h (fewO xs) (fewD d)).2) != 0))], [(2, ⟨56, [I8 a.a0, I8 a.a1, I8 a.a2, I8 a.a3, I8 a.b0, I8 a.b1, I8 a.b2, I8 a.b3]⟩), (3, ⟨82, [I1 h.s0, I1 h.s1, I3 h.s2, I3 h.s3, I8 h.s4, I8 h.s5, I8 h.s6, I1 h.s7, I1 h.s8, I1 h.s9, VL A1 ((fewO xs).length) c1, VT (fewD d)]⟩)]⟩ ?_
 refine X.split 21 rfl (fun h4 => ?_) (fun h4 => ?_)
 ·
  replace h4 : ((encS a h (fewO xs) (fewD d)).2) ≠ 0 := by simpa using h4
  have hnil_ := encS_nil h4
  refine Rn 7 (Qo B16 244 4) [Qs B16 245, Qs B16 31] ⟨69, [(2, .own 2 0), (3, .own 3 0), (4, VB false), (5, VL A3 ((encS a h (fewO xs) (fewD d)).1.length) c3), (25, VB ((((encS a h (fewO xs) (fewD d)).1.length : Nat) : Int) == 0))], [(2, ⟨56, [I8 a.a0, I8 a.a1, I8 a.a2, I8 a.a3, I8 a.b0, I8 a.b1, I8 a.b2, I8 a.b3]⟩), (3, ⟨82, [I1 h.s0, I1 h.s1, I3 h.s2, I3 h.s3, I8 h.s4, I8 h.s5, I8 h.s6, I1 h.s7, I1 h.s8, I1 h.s9, VL A1 ((fewO xs).length) c1, VT (fewD d)]⟩)]⟩ ?_
  refine X.isTrue 25 rfl (by rw [hnil_]; rfl) ?_
  refine Cg 64 [] 0 (works13_ok _) ?_
  rintro v5 G5 rows5 hG5 ⟨rfl, rfl⟩
  replace hr := hr.mono hG5.le
  replace hr2 := hr2.mono hG5.le
  refine Rn 6 (.ex .ret) [] ⟨69, [(4, VB true)], []⟩ ?_
  refine Dg (.inl rfl) [.bool true] [] rfl ((((hG1.trans hG2).trans hG3).trans hG5)) ?_
  exact ⟨rfl, rfl⟩
 ·
  replace h4 : ((encS a h (fewO xs) (fewD d)).2) = 0 := by simpa using h4
  obtain ⟨he_, hl_, ⟨h5_, h6_⟩, hE_⟩ := encS_zero h4
  have hdec_ : decS a (encS a h (fewO xs) (fewD d)).1 = ((⟨h.s0, h.s1, h.s2, h.s3, offS (fewO xs), h.s5, h.s6, h.s7, sumS a h (fewO xs) (fewD d), h.s9⟩, fewO xs, fewD d), 0) := by rw [hE_]; exact dec_enc ha hh (opt_nums hr2) he_ hl_ h5_ h6_
  have hel_ : (encS a h (fewO xs) (fewD d)).1.length = 20 + (printO (fewO xs)).length + (fewD d).size := by rw [hE_]; exact rawS_len _ _ _ _
  have hop_ := printO_len (fewO xs)
  have hor_ := offS_range (fewO xs)
  have hoe_ : offS (fewO xs) = 5 + ((printO (fewO xs)).length : Int) / 4 := rfl
  refine Rn 10 (Qo B16 62 5) [Qs B16 63] ⟨69, [(3, .own 3 0), (4, VB false), (5, VL A3 ((encS a h (fewO xs) (fewD d)).1.length) c3), (30, .v (.agg #[N8 a.a0, N8 a.a1, N8 a.a2, N8 a.a3])), (32, .v (.agg #[N8 a.b0, N8 a.b1, N8 a.b2, N8 a.b3])), (33, VL A3 ((encS a h (fewO xs) (fewD d)).1.length) c3)], [(3, ⟨82, [I1 h.s0, I1 h.s1, I3 h.s2, I3 h.s3, I8 h.s4, I8 h.s5, I8 h.s6, I1 h.s7, I1 h.s8, I1 h.s9, VL A1 ((fewO xs).length) c1, VT (fewD d)]⟩)]⟩ ?_
  refine X.tellR [400] (R' := [(400, RR 5 1 A3 ((encS a h (fewO xs) (fewD d)).1.length) c3 (((encS a h (fewO xs) (fewD d)).1).map (Value.int .u8)))]) rfl ?_
  refine X.capLe (i := 400) (q := (RR 5 1 A3 ((encS a h (fewO xs) (fewD d)).1.length) c3 (((encS a h (fewO xs) (fewD d)).1).map (Value.int .u8)))) (n := (encS a h (fewO xs) (fewD d)).1.length) (c := c3) (A := A3) rfl rfl ?_
  intro hle7 hmx7
  refine X.freezeHd (i := 400) (n := (encS a h (fewO xs) (fewD d)).1.length) (c := c3) (A := A3) (kd := .u8) ((encS a h (fewO xs) (fewD d)).1) rfl rfl (fun x_ hx_ => by have h_ := encS_bytes ha hh x_ hx_; simp only [IntKind.lo, IntKind.hi]; omega) (by kernel_rfl) (fun _ h => h) ?_
  intro G7 hG7 hr7
  replace hr := hr.mono hG7.le
  replace hr2 := hr2.mono hG7.le
  have hsd_ := SegDec_ok a A3 c3 ((encS a h (fewO xs) (fewD d)).1) G7 ha hr7 hle7 hmx7
  rw [hdec_] at hsd_
  refine Cg 61 [.agg #[N8 a.a0, N8 a.a1, N8 a.a2, N8 a.a3], .agg #[N8 a.b0, N8 a.b1, N8 a.b2, N8 a.b3], .slice A3 ((encS a h (fewO xs) (fewD d)).1.length) c3] 410 hsd_ ?_
  rintro v6 G6 rows6 hG6 ⟨A6, c6, cs6, rfl, rfl, hcs6⟩
  replace hr := hr.mono hG6.le
  replace hr2 := hr2.mono hG6.le
  replace hr7 := hr7.mono hG6.le
  refine X.asR (R' := [(410, RR 65 3 A6 ((fewO xs).length) c6 cs6)]) rfl ?_
  refine X.tellR [410] (R' := [(410, RR 65 3 A6 ((fewO xs).length) c6 cs6)]) rfl ?_
  refine X.capLe (i := 410) (q := (RR 65 3 A6 ((fewO xs).length) c6 cs6)) (n := (fewO xs).length) (c := c6) (A := A6) rfl rfl ?_
  intro hle8 hmx8
  refine X.freezeD (d := optD) (i := 410) (n := (fewO xs).length) (c := c6) (A := A6) (fewO xs) rfl hcs6 (by decide) (by kernel_rfl) (fun _ h => h) ?_
  intro G8 hG8 hr8
  replace hr := hr.mono hG8.le
  replace hr2 := hr2.mono hG8.le
  replace hr7 := hr7.mono hG8.le
  refine Rn 18 (Qo B16 252 7) [Qs B16 253, Qs B16 127] ⟨69, [(3, .own 3 0), (4, VB false), (5, VL A3 ((encS a h (fewO xs) (fewD d)).1.length) c3), (7, .own 7 0), (39, VB false), (43, I6 (IntKind.i64.wrap (offS (fewO xs))))], [(3, ⟨82, [I1 h.s0, I1 h.s1, I3 h.s2, I3 h.s3, I8 h.s4, I8 h.s5, I8 h.s6, I1 h.s7, I1 h.s8, I1 h.s9, VL A1 ((fewO xs).length) c1, VT (fewD d)]⟩), (7, ⟨82, [I1 h.s0, I1 h.s1, I3 h.s2, I3 h.s3, I8 (offS (fewO xs)), I8 h.s5, I8 h.s6, I1 h.s7, I1 (sumS a h (fewO xs) (fewD d)), I1 h.s9, VL A6 ((fewO xs).length) c6, VT (fewD d)]⟩)]⟩ ?_
  refine Kn 43 .i64 (offS (fewO xs)) rfl (wi64 (by omega) (by omega)) ?_
  refine Rn 1 (Qo B16 252 8) [Qs B16 253, Qs B16 127] ⟨69, [(3, .own 3 0), (4, VB false), (5, VL A3 ((encS a h (fewO xs) (fewD d)).1.length) c3), (7, .own 7 0), (39, VB false), (44, I6 (IntKind.i64.wrap ((offS (fewO xs)) * 4)))], [(3, ⟨82, [I1 h.s0, I1 h.s1, I3 h.s2, I3 h.s3, I8 h.s4, I8 h.s5, I8 h.s6, I1 h.s7, I1 h.s8, I1 h.s9, VL A1 ((fewO xs).length) c1, VT (fewD d)]⟩), (7, ⟨82, [I1 h.s0, I1 h.s1, I3 h.s2, I3 h.s3, I8 (offS (fewO xs)), I8 h.s5, I8 h.s6, I1 h.s7, I1 (sumS a h (fewO xs) (fewD d)), I1 h.s9, VL A6 ((fewO xs).length) c6, VT (fewD d)]⟩)]⟩ ?_
  refine Kn 44 .i64 ((offS (fewO xs)) * 4) rfl (wi64 (by omega) (by omega)) ?_
  refine Rn 4 (Qo B16 252 12) [Qs B16 253, Qs B16 127] ⟨69, [(3, .own 3 0), (4, VB false), (5, VL A3 ((encS a h (fewO xs) (fewD d)).1.length) c3), (7, .own 7 0), (39, VB false), (48, I6 (IntKind.i64.wrap (((offS (fewO xs)) * 4) + ((fewD d).size : Int))))], [(3, ⟨82, [I1 h.s0, I1 h.s1, I3 h.s2, I3 h.s3, I8 h.s4, I8 h.s5, I8 h.s6, I1 h.s7, I1 h.s8, I1 h.s9, VL A1 ((fewO xs).length) c1, VT (fewD d)]⟩), (7, ⟨82, [I1 h.s0, I1 h.s1, I3 h.s2, I3 h.s3, I8 (offS (fewO xs)), I8 h.s5, I8 h.s6, I1 h.s7, I1 (sumS a h (fewO xs) (fewD d)), I1 h.s9, VL A6 ((fewO xs).length) c6, VT (fewD d)]⟩)]⟩ ?_
  refine Kn 48 .i64 (((offS (fewO xs)) * 4) + ((fewD d).size : Int)) rfl (wi64 (by omega) (by omega)) ?_
  refine Rn 6 (Qc B16 253) [Qs B16 127] ⟨69, [(3, .own 3 0), (4, VB false), (7, .own 7 0), (52, VB ((((offS (fewO xs)) * 4) + ((fewD d).size : Int)) != (((encS a h (fewO xs) (fewD d)).1.length : Nat) : Int)))], [(3, ⟨82, [I1 h.s0, I1 h.s1, I3 h.s2, I3 h.s3, I8 h.s4, I8 h.s5, I8 h.s6, I1 h.s7, I1 h.s8, I1 h.s9, VL A1 ((fewO xs).length) c1, VT (fewD d)]⟩), (7, ⟨82, [I1 h.s0, I1 h.s1, I3 h.s2, I3 h.s3, I8 (offS (fewO xs)), I8 h.s5, I8 h.s6, I1 h.s7, I1 (sumS a h (fewO xs) (fewD d)), I1 h.s9, VL A6 ((fewO xs).length) c6, VT (fewD d)]⟩)]⟩ ?_
  refine X.isFalse 52 rfl (by simp; omega) ?_
  refine Rn 27 (Qo B16 1022 2) [Qs B16 1023] ⟨69, [(4, VB false), (63, .v (.agg #[N1 h.s0, N1 h.s1, N3 h.s2, N3 h.s3, N8 h.s4, N8 h.s5, N8 h.s6, N1 h.s7, N1 h.s8, N1 h.s9, .slice A1 ((fewO xs).length) c1, .string (fewD d)])), (64, .v (.agg #[N1 h.s0, N1 h.s1, N3 h.s2, N3 h.s3, N8 h.s4, N8 h.s5, N8 h.s6, N1 h.s7, N1 h.s8, N1 h.s9, .slice A6 ((fewO xs).length) c6, .string (fewD d)]))], []⟩ ?_
  refine Cg 63 [.agg #[N1 h.s0, N1 h.s1, N3 h.s2, N3 h.s3, N8 h.s4, N8 h.s5, N8 h.s6, N1 h.s7, N1 h.s8, N1 h.s9, .slice A1 ((fewO xs).length) c1, .string (fewD d)], .agg #[N1 h.s0, N1 h.s1, N3 h.s2, N3 h.s3, N8 h.s4, N8 h.s5, N8 h.s6, N1 h.s7, N1 h.s8, N1 h.s9, .slice A6 ((fewO xs).length) c6, .string (fewD d)]] 0 (SameT_ok (⟨h.s0, h.s1, h.s2, h.s3, h.s4, h.s5, h.s6, h.s7, h.s8, h.s9⟩ : Hd) A1 A6 c1 c6 (fewO xs) (fewD d) _ hr2 hr8 hle2 hle8 hmx2 hmx8) ?_
  rintro v9 G9 rows9 hG9 ⟨rfl, rfl⟩
  replace hr := hr.mono hG9.le
  replace hr2 := hr2.mono hG9.le
  replace hr7 := hr7.mono hG9.le
  replace hr8 := hr8.mono hG9.le
  refine Rn 1 (Qo B16 1022 4) [Qs B16 1023] ⟨69, [(4, VB false), (66, VB true)], []⟩ ?_
  refine Cg 64 [] 0 (works13_ok _) ?_
  rintro v10 G10 rows10 hG10 ⟨rfl, rfl⟩
  replace hr := hr.mono hG10.le
  replace hr2 := hr2.mono hG10.le
  replace hr7 := hr7.mono hG10.le
  replace hr8 := hr8.mono hG10.le
  refine Rn 5 (.ex .ret) [] ⟨69, [(4, VB true)], []⟩ ?_
  refine Dg (.inl rfl) [.bool true] [] rfl ((((((((hG1.trans hG2).trans hG3).trans hG7).trans hG6).trans hG8).trans hG9).trans hG10)) ?_
  exact ⟨rfl, rfl⟩
end Go.Proofs.YtjgpdbkkpomhjaaX
