/- A part of a law's proof. Conditions: none. -/
import Derived.Test.YtjgpdbkkpomhjaaProg
import Derived.KernelRfl
import Derived.Test.YtjgpdbkkpomhjaaQYM3
import Derived.Test.YtjgpdbkkpomhjaaQYV4
import Derived.Test.YtjgpdbkkpomhjaaQYK2
import Derived.Test.YtjgpdbkkpomhjaaQYT
namespace Go.Proofs.YtjgpdbkkpomhjaaX
open Go.RowKit
open Go.Proofs.YtjgpdbkkpomhjaaW.PrintLast
set_option linter.unusedVariables false
set_option linter.unusedSimpArgs false
set_option maxRecDepth 100000
noncomputable def B76 : Code := bodyOf Try.f76
set_option maxHeartbeats 2000000 in
theorem RRead_ok (f last : Int) (A : Option Addr) (c : Nat) (b : List Int) (G : Mem) (hb : rowAt (D.int .u8) G A b) (hle : b.length ≤ c) (hmx : c ≤ maxLen) : CallsG Try.prog 76 [.int .i64 f, .slice A b.length c, .int .i64 last] G (fun _ v rows => v = .tuple #[.agg #[.int .i64 (rdP f b last).1.u, .int .u32 (rdP f b last).1.s, .int .u8 (rdP f b last).1.a, .int .i64 (rdP f b last).1.x, .int .i64 (rdP f b last).1.y, .int .i64 (rdP f b last).1.z], .int .i64 (rdP f b last).2] ∧ rows = []) := by
 simp only [maxLen] at hmx
 refine CallsG.enter Try.func76 rfl rfl ?_
 intro w
 refine Rn 11 (Qo B76 6 3) [Qs B76 7] ⟨71, [(0, I6 f), (2, I6 last), (6, .own 6 0), (7, I6 0), (13, .v (.agg #[N8 10, N8 0, N8 0, N8 2])), (14, .v (.agg #[N8 10, N8 0, N8 0, N8 1])), (15, VL A b.length c)], [(6, ⟨103, [I6 0, I3 0, I8 0, I6 0, I6 0, I6 0]⟩)]⟩ ?_
 refine Cg 62 [.agg #[N8 10, N8 0, N8 0, N8 2], .agg #[N8 10, N8 0, N8 0, N8 1], .slice A b.length c] 410 (RSegDec_ok exW A c b _ exW_ok hb hle hmx) ?_
 rintro v1 G1 rows1 hG1 ⟨A1, c1, cs1, rfl, rfl, hcs1⟩
 replace hb := hb.mono hG1.le
 obtain ⟨g_, os_, d_, e_, hD_⟩ : ∃ g os d e, decS exW b = ((g, os, d), e) := ⟨_, _, _, _, rfl⟩
 obtain ⟨hg3_, hg6_, hfo_⟩ := seg_parts (row_bytes hb) hD_
 rw [hD_] at hcs1
 rw [hD_]
 refine Tr [410] ?_
 refine X.capLe (i := 410) rfl rfl ?_
 intro hle2 hmx2
 refine X.freezeD (d := optD) (i := 410) (n := os_.length) (c := c1) (A := A1) (os_) rfl hcs1 (by decide) (by kernel_rfl) (fun _ h => h) ?_
 intro G2 hG2 hr2
 replace hb := hb.mono hG2.le
 refine Rb 15 (Qc B76 29) 1 [Qs B76 15] [(8, .own 8 0), (9, I6 e_), (20, VB (e_ != 0))] [] [(8, ⟨82, [I1 g_.s0, I1 g_.s1, I3 g_.s2, I3 g_.s3, I8 g_.s4, I8 g_.s5, I8 g_.s6, I1 g_.s7, I1 g_.s8, I1 g_.s9, VL A1 os_.length c1, VT d_]⟩)] [] ?_
 refine Sn 20 rfl ?_ ?_ <;> intro h3
 ·
  have he_ : e_ ≠ 0 := h3
  refine Rn 11 (.ex .ret) [] ⟨71, [(6, .own 6 0), (7, I6 e_)], [(6, ⟨103, [I6 0, I3 0, I8 0, I6 0, I6 0, I6 0]⟩)]⟩ ?_
  refine Dg (.inl rfl) [.agg #[N6 0, N3 0, N8 0, N6 0, N6 0, N6 0], N6 e_] [] rfl ((hG1.trans hG2)) ?_
  rw [rdP_err hD_ he_]
  exact ⟨rfl, rfl⟩
 ·
  have he_ : e_ = 0 := h3
  refine Rc 7 (Qo B76 30 2) 1 [Qs B76 31] [(24, VL A1 os_.length c1)] [9] ?_
  refine Cg 130 [.slice A1 os_.length c1, N6 8] 0 (RFind_ok A1 c1 os_ 8 _ hr2 hle2 hmx2) ?_
  rintro v4 G4 rows4 hG4 ⟨B4, c4, rfl, hl4, hm4, hr4, rfl⟩
  replace hb := hb.mono hG4.le
  replace hr2 := hr2.mono hG4.le
  refine Rb 12 (Qo B76 124 5) 1 [Qs B76 125, Qs B76 63] [(10, .own 10 0), (28, I1 g_.s1), (30, I1 (IntKind.u16.wrap f))] [] [(10, ⟨65, [I6 ((findO os_ 8).1.1), VL B4 ((findO os_ 8).1.2.1.length) c4, VT ((findO os_ 8).1.2.2)]⟩)] [] ?_
  refine Kn 30 .u16 (f % 65536) rfl (u16_wrap f) ?_
  refine Ra 2 (Qo B76 124 7) 0 [] [(32, VB (g_.s1 != (f % 65536)))] ?_
  refine Sn 32 rfl ?_ ?_ <;> intro h5
  ·
   have hk_ : okA f g_ os_ = false := okA_dst h5
   refine Rn 24 (.ex .ret) [] ⟨71, [(6, .own 6 0), (7, I6 5)], [(6, ⟨103, [I6 0, I3 0, I8 0, I6 0, I6 0, I6 0]⟩)]⟩ ?_
   refine Dg (.inl rfl) [.agg #[N6 0, N3 0, N8 0, N6 0, N6 0, N6 0], N6 5] [] rfl (((hG1.trans hG2).trans hG4)) ?_
   rw [rdP_form hD_ he_ hk_]
   exact ⟨rfl, rfl⟩
  ·
   have hkd_ : g_.s1 = f % 65536 := by first | exact h5 | (have h_ := h5; omega)
   refine Ra 4 (Qo B76 124 11) 0 [] [(32, VB false), (36, I8 (IntKind.u8.wrap (Int.tdiv g_.s6 16)))] ?_
   refine Kn 36 .u8 (g_.s6 / 16) rfl (wdiv_u8 (by omega) (by omega) (by omega)) ?_
   refine Ra 1 (Qo B76 124 12) 0 [] [(37, I8 (Int.tmod (g_.s6 / 16) 2))] ?_
   refine Kn 37 .u8 ((g_.s6 / 16) % 2) rfl (Int.tmod_eq_emod_of_nonneg (by omega)) ?_
   refine Ra 3 (Qo B76 124 15) 0 [] [(40, VB (((g_.s6 / 16) % 2) == 0))] ?_
   refine Se 40 rfl ?_ ?_ <;> intro h6
   ·
    have hk_ : okA f g_ os_ = false := okA_flag (by have h_ := h6; omega)
    refine Rn 16 (.ex .ret) [] ⟨71, [(6, .own 6 0), (7, I6 5)], [(6, ⟨103, [I6 0, I3 0, I8 0, I6 0, I6 0, I6 0]⟩)]⟩ ?_
    refine Dg (.inl rfl) [.agg #[N6 0, N3 0, N8 0, N6 0, N6 0, N6 0], N6 5] [] rfl (((hG1.trans hG2).trans hG4)) ?_
    rw [rdP_form hD_ he_ hk_]
    exact ⟨rfl, rfl⟩
   ·
    have hkf_ : g_.s6 / 16 % 2 = 1 := by have h_ := h6; omega
    refine Ra 6 (Qc B76 125) 1 [] [(44, VB (((findO os_ 8).1.1) == 0))] ?_
    refine Se 44 rfl ?_ ?_ <;> intro h7
    ·
     have hk_ : okA f g_ os_ = false := okA_none ((find_zero (by decide) os_).mp h7)
     refine Rn 10 (.ex .ret) [] ⟨71, [(6, .own 6 0), (7, I6 5)], [(6, ⟨103, [I6 0, I3 0, I8 0, I6 0, I6 0, I6 0]⟩)]⟩ ?_
     refine Dg (.inl rfl) [.agg #[N6 0, N3 0, N8 0, N6 0, N6 0, N6 0], N6 5] [] rfl (((hG1.trans hG2).trans hG4)) ?_
     rw [rdP_form hD_ he_ hk_]
     exact ⟨rfl, rfl⟩
    ·
     have h8_ := find_there (by decide) h7
     have hk_ : okA f g_ os_ = true := okA_fine hkd_ hkf_ h8_
     have hs2_ := stamp_two (hfo_ he_) h8_
     refine Ra 7 (Qo B76 126 2) 1 [Qs B76 127] [(47, VL A1 os_.length c1)] ?_
     refine Cg 130 [.slice A1 os_.length c1, N6 172] 0 (RFind_ok A1 c1 os_ 172 _ hr2 hle2 hmx2) ?_
     rintro v8 G8 rows8 hG8 ⟨B8, c8, rfl, hl8, hm8, hr8, rfl⟩
     replace hb := hb.mono hG8.le
     replace hr2 := hr2.mono hG8.le
     replace hr4 := hr4.mono hG8.le
     refine Rb 12 (Qc B76 509) 1 [Qs B76 255] [(11, .own 11 0), (51, VB (((findO os_ 172).1.1) == 0))] [] [(11, ⟨65, [I6 ((findO os_ 172).1.1), VL B8 ((findO os_ 172).1.2.1.length) c8, VT ((findO os_ 172).1.2.2)]⟩)] [] ?_
     refine Se 51 rfl ?_ ?_ <;> intro h9
     ·
      have h172_ : (findO os_ 172).2 = false := (find_zero (by decide) os_).mp h9
      refine Ra 4 (Qo B76 1018 2) 0 [] [(53, VL A1 os_.length c1)] ?_
      refine Cg 130 [.slice A1 os_.length c1, N6 174] 0 (RFind_ok A1 c1 os_ 174 _ hr2 hle2 hmx2) ?_
      rintro v10 G10 rows10 hG10 ⟨B10, c10, rfl, hl10, hm10, hr10, rfl⟩
      replace hb := hb.mono hG10.le
      replace hr2 := hr2.mono hG10.le
      replace hr4 := hr4.mono hG10.le
      replace hr8 := hr8.mono hG10.le
      refine Rb 4 (Qc B76 510) 1 [Qs B76 511] [] [] [(11, ⟨65, [I6 ((findO os_ 174).1.1), VL B10 ((findO os_ 174).1.2.1.length) c10, VT ((findO os_ 174).1.2.2)]⟩)] [] ?_
      have hb_d11 := hb
      have hr2_d11 := hr2
      have hr4_d11 := hr4
      have hr8_d11 := hr8
      have hr10_d11 := hr10
      refine Oh 10 B76 510 18 [⟨some 8, 8, 82, [I1 g_.s0, I1 g_.s1, I3 g_.s2, I3 g_.s3, I8 g_.s4, I8 g_.s5, I8 g_.s6, I1 g_.s7, I1 g_.s8, I1 g_.s9, VL A1 os_.length c1, VT d_]⟩, ⟨some 10, 10, 65, [I6 ((findO os_ 8).1.1), VL B4 ((findO os_ 8).1.2.1.length) c4, VT ((findO os_ 8).1.2.2)]⟩, ⟨some 11, 11, 65, [I6 ((findO os_ 174).1.1), VL B10 ((findO os_ 174).1.2.1.length) c10, VT ((findO os_ 174).1.2.2)]⟩] [] [] ⟨P1, P1, P1, trivial⟩ Mt (fun ρ0 => ?_)
      refine Tk 0 18 1 B76 510 (I6 last) QOk.ctxG ?_
      refine Tk 1 18 3 B76 510 (.own 8 0) QOk.ctxG ?_
      refine Tk 2 18 7 B76 510 (.own 8 3) QOk.ctxG ?_
      refine Tk 3 18 15 B76 510 (I3 g_.s3) QOk.ctxG ?_
      refine Tk 4 18 31 B76 510 (I7 (IntKind.u64.wrap g_.s3)) QOk.ctxG ?_
      refine Dk 59 .u64 g_.s3 rfl (wu64 (by omega) (by omega)) ?_
      refine Tk 6 18 95 B76 510 (.own 10 1) QOk.ctxG ?_
      refine Tk 7 18 223 B76 510 (VL B4 ((findO os_ 8).1.2.1.length) c4) QOk.ctxG ?_
      have b12 : (0 : Int) ≤ 0 := by omega
      have b13 : 0 < (((findO os_ 8).1.2.1.length : Nat) : Int) := by omega
      obtain ⟨at14, lo14, hi14⟩ := At.int [] hr4_d11 0 (by omega)
      simp only [IntKind.lo, IntKind.hi] at lo14 hi14
      refine Dx 8 18 479 B76 510 63 29 1 B4 ((findO os_ 8).1.2.1.length) c4 .i64 0 (.tmp 62) (.const (N6 0)) QOk.ctxG b12 b13 (fun _ _ => rowAt.so hr4_d11 (by omega)) ?_
      refine Dl 9 18 991 B76 510 29 B4 (0 * 1) (.tmp 63) (N3 (((findO os_ 8).1.2.1).getD 0 0)) [N3 (((findO os_ 8).1.2.1).getD 0 0)] QOk.ctxG at14 ?_
      refine Ts [10, 11, 12, 13] 18 16351 5 9 QOk.ctxG ?_
      refine Dn ⟨71, [(6, .own 6 0), (7, I6 0), (8, .own 8 0), (10, .own 10 0), (11, .own 11 0), (55, I6 last), (59, I7 g_.s3), (64, I3 (((findO os_ 8).1.2.1).getD 0 0)), (67, I8 g_.s5), (68, .v (.agg #[N6 ((findO os_ 174).1.1), .slice B10 ((findO os_ 174).1.2.1.length) c10, .string ((findO os_ 174).1.2.2)]))], [(6, ⟨103, [I6 0, I3 0, I8 0, I6 0, I6 0, I6 0]⟩), (8, ⟨82, [I1 g_.s0, I1 g_.s1, I3 g_.s2, I3 g_.s3, I8 g_.s4, I8 g_.s5, I8 g_.s6, I1 g_.s7, I1 g_.s8, I1 g_.s9, VL A1 os_.length c1, VT d_]⟩), (10, ⟨65, [I6 ((findO os_ 8).1.1), VL B4 ((findO os_ 8).1.2.1.length) c4, VT ((findO os_ 8).1.2.2)]⟩), (11, ⟨65, [I6 ((findO os_ 174).1.1), VL B10 ((findO os_ 174).1.2.1.length) c10, VT ((findO os_ 174).1.2.2)]⟩)]⟩ ⟨P1, P1, P1, trivial⟩ ?_
      refine Do 5 18 16383 B76 510 ?_
      refine Cg 131 [N6 last, N7 g_.s3, N6 32] 0 (RUnwrap_ok last g_.s3 _ (by omega)) ?_
      rintro v15 G15 rows15 hG15 ⟨rfl, rfl⟩
      replace hb := hb.mono hG15.le
      replace hr2 := hr2.mono hG15.le
      replace hr4 := hr4.mono hG15.le
      replace hr8 := hr8.mono hG15.le
      replace hr10 := hr10.mono hG15.le
      refine X.back ⟨⟨P1, P1, P1, trivial⟩, hG15.le, rfl, ?_⟩
      refine Do 14 18 32767 B76 510 ?_
      refine Cg 55 [.agg #[N6 ((findO os_ 174).1.1), .slice B10 ((findO os_ 174).1.2.1.length) c10, .string ((findO os_ 174).1.2.2)]] 0 (rCounters_ok ((findO os_ 174).1.1) B10 c10 ((findO os_ 174).1.2.1) ((findO os_ 174).1.2.2) _ hr10 hl10 hm10) ?_
      rintro v16 G16 rows16 hG16 ⟨rfl, rfl⟩
      replace hb := hb.mono hG16.le
      replace hr2 := hr2.mono hG16.le
      replace hr4 := hr4.mono hG16.le
      replace hr8 := hr8.mono hG16.le
      replace hr10 := hr10.mono hG16.le
      refine X.back ⟨⟨P1, P1, P1, trivial⟩, (hG15.trans hG16).le, rfl, ?_⟩
      refine Td [15] 18 65535 2 QOk.ctxG [(70, .v (.agg #[N6 (unw last g_.s3), N3 (((findO os_ 8).1.2.1).getD 0 0), N8 g_.s5, N6 (ct ((findO os_ 174).1.1) ((findO os_ 174).1.2.1) 0), N6 (ct ((findO os_ 174).1.1) ((findO os_ 174).1.2.1) 1), N6 (ct ((findO os_ 174).1.1) ((findO os_ 174).1.2.1) 2)]))] ⟨P1, P1, P1, trivial⟩ ?_
      refine Do 16 18 131071 B76 510 ?_
      refine X.simple (by kernel_rfl) ?_
      refine X.back ⟨⟨P1, P1, P1, trivial⟩, (hG15.trans hG16).le, rfl, ?_⟩
      refine Ts [17] 18 262143 0 1 QOk.ctxG ?_
      refine XD.done (by kernel_rfl) ?_
      refine Rn 2 (.ex .ret) [] ⟨71, [(6, .own 6 0), (7, I6 0)], [(6, ⟨103, [I6 (unw last g_.s3), I3 (((findO os_ 8).1.2.1).getD 0 0), I8 g_.s5, I6 (ct ((findO os_ 174).1.1) ((findO os_ 174).1.2.1) 0), I6 (ct ((findO os_ 174).1.1) ((findO os_ 174).1.2.1) 1), I6 (ct ((findO os_ 174).1.1) ((findO os_ 174).1.2.1) 2)]⟩)]⟩ ?_
      refine Dg (.inl rfl) [.agg #[N6 (unw last g_.s3), N3 (((findO os_ 8).1.2.1).getD 0 0), N8 g_.s5, N6 (ct ((findO os_ 174).1.1) ((findO os_ 174).1.2.1) 0), N6 (ct ((findO os_ 174).1.1) ((findO os_ 174).1.2.1) 1), N6 (ct ((findO os_ 174).1.1) ((findO os_ 174).1.2.1) 2)], N6 0] [] rfl (((((((hG1.trans hG2).trans hG4).trans hG8).trans hG10).trans hG15).trans hG16)) ?_
      rw [rdP_fine hD_ he_ hk_]
      have hx_ : ackOf g_ os_ last = ⟨unw last g_.s3, (findO os_ 8).1.2.1.getD 0 0, g_.s5, ct (findO os_ 174).1.1 (findO os_ 174).1.2.1 0, ct (findO os_ 174).1.1 (findO os_ 174).1.2.1 1, ct (findO os_ 174).1.1 (findO os_ 174).1.2.1 2⟩ := by
       unfold ackOf
       rw [if_neg (by rw [h172_]; decide)]
      rw [hx_]
      exact ⟨rfl, rfl⟩
     ·
      have h172_ : (findO os_ 172).2 = true := find_there (by decide) h9
      refine Ra 4 (Qc B76 510) 1 [Qs B76 511] [] ?_
      have hb_d17 := hb
      have hr2_d17 := hr2
      have hr4_d17 := hr4
      have hr8_d17 := hr8
      refine Oh 10 B76 510 18 [⟨some 8, 8, 82, [I1 g_.s0, I1 g_.s1, I3 g_.s2, I3 g_.s3, I8 g_.s4, I8 g_.s5, I8 g_.s6, I1 g_.s7, I1 g_.s8, I1 g_.s9, VL A1 os_.length c1, VT d_]⟩, ⟨some 10, 10, 65, [I6 ((findO os_ 8).1.1), VL B4 ((findO os_ 8).1.2.1.length) c4, VT ((findO os_ 8).1.2.2)]⟩, ⟨some 11, 11, 65, [I6 ((findO os_ 172).1.1), VL B8 ((findO os_ 172).1.2.1.length) c8, VT ((findO os_ 172).1.2.2)]⟩] [] [] ⟨P1, P1, P1, trivial⟩ Mt (fun ρ0 => ?_)
      refine Tk 0 18 1 B76 510 (I6 last) QOk.ctxG ?_
      refine Tk 1 18 3 B76 510 (.own 8 0) QOk.ctxG ?_
      refine Tk 2 18 7 B76 510 (.own 8 3) QOk.ctxG ?_
      refine Tk 3 18 15 B76 510 (I3 g_.s3) QOk.ctxG ?_
      refine Tk 4 18 31 B76 510 (I7 (IntKind.u64.wrap g_.s3)) QOk.ctxG ?_
      refine Dk 59 .u64 g_.s3 rfl (wu64 (by omega) (by omega)) ?_
      refine Tk 6 18 95 B76 510 (.own 10 1) QOk.ctxG ?_
      refine Tk 7 18 223 B76 510 (VL B4 ((findO os_ 8).1.2.1.length) c4) QOk.ctxG ?_
      have b18 : (0 : Int) ≤ 0 := by omega
      have b19 : 0 < (((findO os_ 8).1.2.1.length : Nat) : Int) := by omega
      obtain ⟨at20, lo20, hi20⟩ := At.int [] hr4_d17 0 (by omega)
      simp only [IntKind.lo, IntKind.hi] at lo20 hi20
      refine Dx 8 18 479 B76 510 63 29 1 B4 ((findO os_ 8).1.2.1.length) c4 .i64 0 (.tmp 62) (.const (N6 0)) QOk.ctxG b18 b19 (fun _ _ => rowAt.so hr4_d17 (by omega)) ?_
      refine Dl 9 18 991 B76 510 29 B4 (0 * 1) (.tmp 63) (N3 (((findO os_ 8).1.2.1).getD 0 0)) [N3 (((findO os_ 8).1.2.1).getD 0 0)] QOk.ctxG at20 ?_
      refine Td [10, 11, 12, 13] 18 16351 5 QOk.ctxG [(55, I6 last), (59, I7 g_.s3), (64, I3 (((findO os_ 8).1.2.1).getD 0 0)), (67, I8 g_.s5), (68, .v (.agg #[N6 ((findO os_ 172).1.1), .slice B8 ((findO os_ 172).1.2.1.length) c8, .string ((findO os_ 172).1.2.2)]))] ⟨P1, P1, P1, trivial⟩ ?_
      refine Do 5 18 16383 B76 510 ?_
      refine Cg 131 [N6 last, N7 g_.s3, N6 32] 0 (RUnwrap_ok last g_.s3 _ (by omega)) ?_
      rintro v21 G21 rows21 hG21 ⟨rfl, rfl⟩
      replace hb := hb.mono hG21.le
      replace hr2 := hr2.mono hG21.le
      replace hr4 := hr4.mono hG21.le
      replace hr8 := hr8.mono hG21.le
      refine X.back ⟨⟨P1, P1, P1, trivial⟩, hG21.le, rfl, ?_⟩
      refine Dn ⟨71, [(6, .own 6 0), (7, I6 0), (8, .own 8 0), (10, .own 10 0), (11, .own 11 0), (60, I6 (unw last g_.s3)), (64, I3 (((findO os_ 8).1.2.1).getD 0 0)), (67, I8 g_.s5), (68, .v (.agg #[N6 ((findO os_ 172).1.1), .slice B8 ((findO os_ 172).1.2.1.length) c8, .string ((findO os_ 172).1.2.2)]))], [(6, ⟨103, [I6 0, I3 0, I8 0, I6 0, I6 0, I6 0]⟩), (8, ⟨82, [I1 g_.s0, I1 g_.s1, I3 g_.s2, I3 g_.s3, I8 g_.s4, I8 g_.s5, I8 g_.s6, I1 g_.s7, I1 g_.s8, I1 g_.s9, VL A1 os_.length c1, VT d_]⟩), (10, ⟨65, [I6 ((findO os_ 8).1.1), VL B4 ((findO os_ 8).1.2.1.length) c4, VT ((findO os_ 8).1.2.2)]⟩), (11, ⟨65, [I6 ((findO os_ 172).1.1), VL B8 ((findO os_ 172).1.2.1.length) c8, VT ((findO os_ 172).1.2.2)]⟩)]⟩ ⟨P1, P1, P1, trivial⟩ ?_
      refine Do 14 18 32767 B76 510 ?_
      refine Cg 55 [.agg #[N6 ((findO os_ 172).1.1), .slice B8 ((findO os_ 172).1.2.1.length) c8, .string ((findO os_ 172).1.2.2)]] 0 (rCounters_ok ((findO os_ 172).1.1) B8 c8 ((findO os_ 172).1.2.1) ((findO os_ 172).1.2.2) _ hr8 hl8 hm8) ?_
      rintro v22 G22 rows22 hG22 ⟨rfl, rfl⟩
      replace hb := hb.mono hG22.le
      replace hr2 := hr2.mono hG22.le
      replace hr4 := hr4.mono hG22.le
      replace hr8 := hr8.mono hG22.le
      refine X.back ⟨⟨P1, P1, P1, trivial⟩, (hG21.trans hG22).le, rfl, ?_⟩
      refine Td [15] 18 65535 2 QOk.ctxG [(70, .v (.agg #[N6 (unw last g_.s3), N3 (((findO os_ 8).1.2.1).getD 0 0), N8 g_.s5, N6 (ct ((findO os_ 172).1.1) ((findO os_ 172).1.2.1) 0), N6 (ct ((findO os_ 172).1.1) ((findO os_ 172).1.2.1) 1), N6 (ct ((findO os_ 172).1.1) ((findO os_ 172).1.2.1) 2)]))] ⟨P1, P1, P1, trivial⟩ ?_
      refine Do 16 18 131071 B76 510 ?_
      refine X.simple (by kernel_rfl) ?_
      refine X.back ⟨⟨P1, P1, P1, trivial⟩, (hG21.trans hG22).le, rfl, ?_⟩
      refine Ts [17] 18 262143 0 1 QOk.ctxG ?_
      refine XD.done (by kernel_rfl) ?_
      refine Rn 2 (.ex .ret) [] ⟨71, [(6, .own 6 0), (7, I6 0)], [(6, ⟨103, [I6 (unw last g_.s3), I3 (((findO os_ 8).1.2.1).getD 0 0), I8 g_.s5, I6 (ct ((findO os_ 172).1.1) ((findO os_ 172).1.2.1) 0), I6 (ct ((findO os_ 172).1.1) ((findO os_ 172).1.2.1) 1), I6 (ct ((findO os_ 172).1.1) ((findO os_ 172).1.2.1) 2)]⟩)]⟩ ?_
      refine Dg (.inl rfl) [.agg #[N6 (unw last g_.s3), N3 (((findO os_ 8).1.2.1).getD 0 0), N8 g_.s5, N6 (ct ((findO os_ 172).1.1) ((findO os_ 172).1.2.1) 0), N6 (ct ((findO os_ 172).1.1) ((findO os_ 172).1.2.1) 1), N6 (ct ((findO os_ 172).1.1) ((findO os_ 172).1.2.1) 2)], N6 0] [] rfl ((((((hG1.trans hG2).trans hG4).trans hG8).trans hG21).trans hG22)) ?_
      rw [rdP_fine hD_ he_ hk_]
      have hx_ : ackOf g_ os_ last = ⟨unw last g_.s3, (findO os_ 8).1.2.1.getD 0 0, g_.s5, ct (findO os_ 172).1.1 (findO os_ 172).1.2.1 0, ct (findO os_ 172).1.1 (findO os_ 172).1.2.1 1, ct (findO os_ 172).1.1 (findO os_ 172).1.2.1 2⟩ := by
       unfold ackOf
       rw [if_pos h172_]
      rw [hx_]
      exact ⟨rfl, rfl⟩
end Go.Proofs.YtjgpdbkkpomhjaaX
