/- A part of a law's proof. Conditions: none. -/
import Derived.Test.YtjgpdbkkpomhjaaProg
import Derived.KernelRfl
import Derived.Test.YtjgpdbkkpomhjaaQYM1
import Derived.Test.YtjgpdbkkpomhjaaQYM2
import Derived.Test.YtjgpdbkkpomhjaaQYG3
import Derived.Test.YtjgpdbkkpomhjaaQYK1
import Derived.Test.YtjgpdbkkpomhjaaQYT
namespace Go.Proofs.YtjgpdbkkpomhjaaX
open Go.RowKit
open Go.Proofs.YtjgpdbkkpomhjaaW.PrintLast
set_option linter.unusedVariables false
set_option linter.unusedSimpArgs false
set_option maxRecDepth 100000
noncomputable def B75 : Code := bodyOf Try.f75
set_option maxHeartbeats 2000000 in
theorem Read_okP (f last : Int) (A : Option Addr) (c : Nat) (b : List Int) (G : Mem) (hb : rowAt (D.int .u8) G A b) (hle : b.length ≤ c) (hmx : c ≤ maxLen) : CallsG Try.prog 75 [.int .i64 f, .slice A b.length c, .int .i64 last] G (fun _ v rows => v = .tuple #[.agg #[.int .i64 (rdP f b last).1.u, .int .u32 (rdP f b last).1.s, .int .u8 (rdP f b last).1.a, .int .i64 (rdP f b last).1.x, .int .i64 (rdP f b last).1.y, .int .i64 (rdP f b last).1.z], .int .i64 (rdP f b last).2] ∧ rows = []) := by
 simp only [maxLen] at hmx
 refine CallsG.enter Try.func75 rfl rfl ?_
 intro w
 refine Rn 8 (Qo B75 6 0) [Qs B75 7] ⟨83, [(0, I6 f), (1, VL A b.length c), (2, I6 last), (6, .own 6 0), (7, I6 0)], [(6, ⟨103, [I6 0, I3 0, I8 0, I6 0, I6 0, I6 0]⟩)]⟩ ?_
 refine Cg 127 [] 0 (ends_ok _) ?_
 rintro v1 G1 rows1 hG1 ⟨rfl, rfl⟩
 replace hb := hb.mono hG1.le
 refine Ra 14 (Qo B75 14 3) 1 [Qs B75 15] [(20, .v (.agg #[N8 10, N8 0, N8 0, N8 2])), (21, .v (.agg #[N8 10, N8 0, N8 0, N8 1])), (22, VL A b.length c)] ?_
 refine Cg 61 [.agg #[N8 10, N8 0, N8 0, N8 2], .agg #[N8 10, N8 0, N8 0, N8 1], .slice A b.length c] 410 (SegDec_ok exW A c b _ exW_ok hb hle hmx) ?_
 rintro v2 G2 rows2 hG2 ⟨A2, c2, cs2, rfl, rfl, hcs2⟩
 replace hb := hb.mono hG2.le
 obtain ⟨g_, os_, d_, e_, hD_⟩ : ∃ g os d e, decS exW b = ((g, os, d), e) := ⟨_, _, _, _, rfl⟩
 obtain ⟨hg3_, hg6_, hfo_⟩ := seg_parts (row_bytes hb) hD_
 rw [hD_] at hcs2
 rw [hD_]
 refine Tr [410] ?_
 refine X.capLe (i := 410) rfl rfl ?_
 intro hle3 hmx3
 refine X.freezeD (d := optD) (i := 410) (n := os_.length) (c := c2) (A := A2) (os_) rfl hcs2 (by decide) (by kernel_rfl) (fun _ h => h) ?_
 intro G3 hG3 hr3
 replace hb := hb.mono hG3.le
 refine Rb 15 (Qc B75 61) 1 [Qs B75 31] [(10, .own 10 0), (11, I6 e_), (27, VB (e_ != 0))] [] [(10, ⟨82, [I1 g_.s0, I1 g_.s1, I3 g_.s2, I3 g_.s3, I8 g_.s4, I8 g_.s5, I8 g_.s6, I1 g_.s7, I1 g_.s8, I1 g_.s9, VL A2 os_.length c2, VT d_]⟩)] [] ?_
 refine Sn 27 rfl ?_ ?_ <;> intro h4
 ·
  have he_ : e_ ≠ 0 := h4
  refine Rn 11 (.ex .ret) [] ⟨83, [(6, .own 6 0), (7, I6 e_)], [(6, ⟨103, [I6 0, I3 0, I8 0, I6 0, I6 0, I6 0]⟩)]⟩ ?_
  refine Dg (.inl rfl) [.agg #[N6 0, N3 0, N8 0, N6 0, N6 0, N6 0], N6 e_] [] rfl (((hG1.trans hG2).trans hG3)) ?_
  rw [rdP_err hD_ he_]
  exact ⟨rfl, rfl⟩
 ·
  have he_ : e_ = 0 := h4
  refine Rc 7 (Qo B75 62 2) 1 [Qs B75 63] [(32, VL A2 os_.length c2)] [11] ?_
  refine Cg 51 [.slice A2 os_.length c2, N6 8] 0 (Find_ok A2 c2 os_ 8 _ hr3 hle3 hmx3) ?_
  rintro v5 G5 rows5 hG5 ⟨B5, c5, rfl, hl5, hm5, hr5, rfl⟩
  replace hb := hb.mono hG5.le
  replace hr3 := hr3.mono hG5.le
  refine Rb 16 (Qo B75 252 5) 1 [Qs B75 253, Qs B75 127] [(12, .own 12 0), (13, VB ((findO os_ 8).2)), (38, I1 g_.s1), (40, I1 (IntKind.u16.wrap f))] [] [(12, ⟨65, [I6 ((findO os_ 8).1.1), VL B5 ((findO os_ 8).1.2.1.length) c5, VT ((findO os_ 8).1.2.2)]⟩)] [] ?_
  refine Kn 40 .u16 (f % 65536) rfl (u16_wrap f) ?_
  refine Ra 2 (Qo B75 252 7) 0 [] [(42, VB (g_.s1 != (f % 65536)))] ?_
  refine Sn 42 rfl ?_ ?_ <;> intro h6
  ·
   have hk_ : okA f g_ os_ = false := okA_dst h6
   refine Rn 21 (.ex .ret) [] ⟨83, [(6, .own 6 0), (7, I6 5)], [(6, ⟨103, [I6 0, I3 0, I8 0, I6 0, I6 0, I6 0]⟩)]⟩ ?_
   refine Dg (.inl rfl) [.agg #[N6 0, N3 0, N8 0, N6 0, N6 0, N6 0], N6 5] [] rfl ((((hG1.trans hG2).trans hG3).trans hG5)) ?_
   rw [rdP_form hD_ he_ hk_]
   exact ⟨rfl, rfl⟩
  ·
   have hkd_ : g_.s1 = f % 65536 := h6
   refine Ra 2 (Qo B75 252 9) 0 [] [(42, VB false), (44, .v (.agg #[N1 g_.s0, N1 g_.s1, N3 g_.s2, N3 g_.s3, N8 g_.s4, N8 g_.s5, N8 g_.s6, N1 g_.s7, N1 g_.s8, N1 g_.s9]))] ?_
   refine Cg 37 [.agg #[N1 g_.s0, N1 g_.s1, N3 g_.s2, N3 g_.s3, N8 g_.s4, N8 g_.s5, N8 g_.s6, N1 g_.s7, N1 g_.s8, N1 g_.s9], N8 16] 0 (Has_ok g_.s0 g_.s1 g_.s2 g_.s3 g_.s4 g_.s5 g_.s6 g_.s7 g_.s8 g_.s9 16 _) ?_
   rintro v7 G7 rows7 hG7 ⟨rfl, rfl⟩
   replace hb := hb.mono hG7.le
   replace hr3 := hr3.mono hG7.le
   replace hr5 := hr5.mono hG7.le
   refine Ra 3 (Qo B75 252 13) 0 [] [(48, VB (!(band .u8 g_.s6 16 == 16)))] ?_
   refine X.split 48 rfl (fun h8 => ?_) (fun h8 => ?_)
   ·
    replace h8 : (band .u8 g_.s6 16 == 16) = false := by first | (simpa using h8; done) | (have h_ := congrArg (fun b_ => !b_) h8; simpa only [Bool.not_not, Bool.not_true, Bool.not_false] using h_)
    replace h8 : band .u8 g_.s6 16 ≠ 16 := by simpa using h8
    have hfl_ : (band .u8 g_.s6 16 == 16) = false := by first | exact h8 | simpa using h8
    rw [has16 hg6_] at hfl_
    have hk_ : okA f g_ os_ = false := okA_flag (of_decide_eq_false hfl_)
    refine Rn 15 (.ex .ret) [] ⟨83, [(6, .own 6 0), (7, I6 5)], [(6, ⟨103, [I6 0, I3 0, I8 0, I6 0, I6 0, I6 0]⟩)]⟩ ?_
    refine Dg (.inl rfl) [.agg #[N6 0, N3 0, N8 0, N6 0, N6 0, N6 0], N6 5] [] rfl (((((hG1.trans hG2).trans hG3).trans hG5).trans hG7)) ?_
    rw [rdP_form hD_ he_ hk_]
    exact ⟨rfl, rfl⟩
   ·
    replace h8 : (band .u8 g_.s6 16 == 16) = true := by first | (simpa using h8; done) | (have h_ := congrArg (fun b_ => !b_) h8; simpa only [Bool.not_not, Bool.not_true, Bool.not_false] using h_)
    replace h8 : band .u8 g_.s6 16 = 16 := by simpa using h8
    have hfl_ : (band .u8 g_.s6 16 == 16) = true := by first | exact h8 | simpa using h8
    rw [has16 hg6_] at hfl_
    have hkf_ := of_decide_eq_true hfl_
    refine Ra 5 (Qc B75 253) 1 [] [(51, VB (!((findO os_ 8).2)))] ?_
    refine X.split 51 rfl (fun h9 => ?_) (fun h9 => ?_)
    ·
     replace h9 : ((findO os_ 8).2) = false := by first | (simpa using h9; done) | (have h_ := congrArg (fun b_ => !b_) h9; simpa only [Bool.not_not, Bool.not_true, Bool.not_false] using h_)
     have hk_ : okA f g_ os_ = false := okA_none h9
     refine Rn 10 (.ex .ret) [] ⟨83, [(6, .own 6 0), (7, I6 5)], [(6, ⟨103, [I6 0, I3 0, I8 0, I6 0, I6 0, I6 0]⟩)]⟩ ?_
     refine Dg (.inl rfl) [.agg #[N6 0, N3 0, N8 0, N6 0, N6 0, N6 0], N6 5] [] rfl (((((hG1.trans hG2).trans hG3).trans hG5).trans hG7)) ?_
     rw [rdP_form hD_ he_ hk_]
     exact ⟨rfl, rfl⟩
    ·
     replace h9 : ((findO os_ 8).2) = true := by first | (simpa using h9; done) | (have h_ := congrArg (fun b_ => !b_) h9; simpa only [Bool.not_not, Bool.not_true, Bool.not_false] using h_)
     have hk_ : okA f g_ os_ = true := okA_fine hkd_ hkf_ h9
     have hs2_ := stamp_two (hfo_ he_) h9
     refine Ra 7 (Qo B75 254 2) 1 [Qs B75 255] [(55, VL A2 os_.length c2)] ?_
     refine Cg 51 [.slice A2 os_.length c2, N6 172] 0 (Find_ok A2 c2 os_ 172 _ hr3 hle3 hmx3) ?_
     rintro v10 G10 rows10 hG10 ⟨B10, c10, rfl, hl10, hm10, hr10, rfl⟩
     replace hb := hb.mono hG10.le
     replace hr3 := hr3.mono hG10.le
     replace hr5 := hr5.mono hG10.le
     refine Rb 15 (Qc B75 1021) 1 [Qs B75 511] [(14, .own 14 0), (60, VB (!((findO os_ 172).2)))] [13] [(14, ⟨65, [I6 ((findO os_ 172).1.1), VL B10 ((findO os_ 172).1.2.1.length) c10, VT ((findO os_ 172).1.2.2)]⟩)] [] ?_
     refine X.split 60 rfl (fun h11 => ?_) (fun h11 => ?_)
     ·
      replace h11 : ((findO os_ 172).2) = false := by first | (simpa using h11; done) | (have h_ := congrArg (fun b_ => !b_) h11; simpa only [Bool.not_not, Bool.not_true, Bool.not_false] using h_)
      have h172_ : (findO os_ 172).2 = false := h11
      refine Ra 4 (Qo B75 2042 2) 0 [] [(63, VL A2 os_.length c2)] ?_
      refine Cg 51 [.slice A2 os_.length c2, N6 174] 0 (Find_ok A2 c2 os_ 174 _ hr3 hle3 hmx3) ?_
      rintro v12 G12 rows12 hG12 ⟨B12, c12, rfl, hl12, hm12, hr12, rfl⟩
      replace hb := hb.mono hG12.le
      replace hr3 := hr3.mono hG12.le
      replace hr5 := hr5.mono hG12.le
      replace hr10 := hr10.mono hG12.le
      refine Rb 7 (Qc B75 1022) 1 [Qs B75 1023] [] [] [(14, ⟨65, [I6 ((findO os_ 174).1.1), VL B12 ((findO os_ 174).1.2.1.length) c12, VT ((findO os_ 174).1.2.2)]⟩)] [] ?_
      have hb_d13 := hb
      have hr3_d13 := hr3
      have hr5_d13 := hr5
      have hr10_d13 := hr10
      have hr12_d13 := hr12
      refine Oh 11 B75 1022 18 [⟨some 10, 10, 82, [I1 g_.s0, I1 g_.s1, I3 g_.s2, I3 g_.s3, I8 g_.s4, I8 g_.s5, I8 g_.s6, I1 g_.s7, I1 g_.s8, I1 g_.s9, VL A2 os_.length c2, VT d_]⟩, ⟨some 12, 12, 65, [I6 ((findO os_ 8).1.1), VL B5 ((findO os_ 8).1.2.1.length) c5, VT ((findO os_ 8).1.2.2)]⟩, ⟨some 14, 14, 65, [I6 ((findO os_ 174).1.1), VL B12 ((findO os_ 174).1.2.1.length) c12, VT ((findO os_ 174).1.2.2)]⟩] [] [] ⟨P1, P1, P1, trivial⟩ Mt (fun ρ0 => ?_)
      refine Tk 0 18 1 B75 1022 (I6 last) QOk.ctxG ?_
      refine Tk 1 18 3 B75 1022 (.own 10 0) QOk.ctxG ?_
      refine Tk 2 18 7 B75 1022 (.own 10 3) QOk.ctxG ?_
      refine Tk 3 18 15 B75 1022 (I3 g_.s3) QOk.ctxG ?_
      refine Tk 4 18 31 B75 1022 (I7 (IntKind.u64.wrap g_.s3)) QOk.ctxG ?_
      refine Dk 71 .u64 g_.s3 rfl (wu64 (by omega) (by omega)) ?_
      refine Tk 6 18 95 B75 1022 (.own 12 1) QOk.ctxG ?_
      refine Tk 7 18 223 B75 1022 (VL B5 ((findO os_ 8).1.2.1.length) c5) QOk.ctxG ?_
      have b14 : (0 : Int) ≤ 0 := by omega
      have b15 : 0 < (((findO os_ 8).1.2.1.length : Nat) : Int) := by omega
      obtain ⟨at16, lo16, hi16⟩ := At.int [] hr5_d13 0 (by omega)
      simp only [IntKind.lo, IntKind.hi] at lo16 hi16
      refine Dx 8 18 479 B75 1022 63 29 1 B5 ((findO os_ 8).1.2.1.length) c5 .i64 0 (.tmp 74) (.const (N6 0)) QOk.ctxG b14 b15 (fun _ _ => rowAt.so hr5_d13 (by omega)) ?_
      refine Dl 9 18 991 B75 1022 29 B5 (0 * 1) (.tmp 75) (N3 (((findO os_ 8).1.2.1).getD 0 0)) [N3 (((findO os_ 8).1.2.1).getD 0 0)] QOk.ctxG at16 ?_
      refine Ts [10, 11, 12, 13] 18 16351 5 9 QOk.ctxG ?_
      refine Dn ⟨83, [(6, .own 6 0), (7, I6 0), (10, .own 10 0), (12, .own 12 0), (14, .own 14 0), (67, I6 last), (71, I7 g_.s3), (76, I3 (((findO os_ 8).1.2.1).getD 0 0)), (79, I8 g_.s5), (80, .v (.agg #[N6 ((findO os_ 174).1.1), .slice B12 ((findO os_ 174).1.2.1.length) c12, .string ((findO os_ 174).1.2.2)]))], [(6, ⟨103, [I6 0, I3 0, I8 0, I6 0, I6 0, I6 0]⟩), (10, ⟨82, [I1 g_.s0, I1 g_.s1, I3 g_.s2, I3 g_.s3, I8 g_.s4, I8 g_.s5, I8 g_.s6, I1 g_.s7, I1 g_.s8, I1 g_.s9, VL A2 os_.length c2, VT d_]⟩), (12, ⟨65, [I6 ((findO os_ 8).1.1), VL B5 ((findO os_ 8).1.2.1.length) c5, VT ((findO os_ 8).1.2.2)]⟩), (14, ⟨65, [I6 ((findO os_ 174).1.1), VL B12 ((findO os_ 174).1.2.1.length) c12, VT ((findO os_ 174).1.2.2)]⟩)]⟩ ⟨P1, P1, P1, trivial⟩ ?_
      refine Do 5 18 16383 B75 1022 ?_
      refine Cg 129 [N6 last, N7 g_.s3, N6 32] 0 (Unwrap_ok last g_.s3 _) ?_
      rintro v17 G17 rows17 hG17 ⟨rfl, rfl⟩
      replace hb := hb.mono hG17.le
      replace hr3 := hr3.mono hG17.le
      replace hr5 := hr5.mono hG17.le
      replace hr10 := hr10.mono hG17.le
      replace hr12 := hr12.mono hG17.le
      refine X.back ⟨⟨P1, P1, P1, trivial⟩, hG17.le, rfl, ?_⟩
      refine Do 14 18 32767 B75 1022 ?_
      refine Cg 54 [.agg #[N6 ((findO os_ 174).1.1), .slice B12 ((findO os_ 174).1.2.1.length) c12, .string ((findO os_ 174).1.2.2)]] 0 (Counters_ok ((findO os_ 174).1.1) B12 c12 ((findO os_ 174).1.2.1) ((findO os_ 174).1.2.2) _ hr12 hl12 hm12) ?_
      rintro v18 G18 rows18 hG18 ⟨rfl, rfl⟩
      replace hb := hb.mono hG18.le
      replace hr3 := hr3.mono hG18.le
      replace hr5 := hr5.mono hG18.le
      replace hr10 := hr10.mono hG18.le
      replace hr12 := hr12.mono hG18.le
      refine X.back ⟨⟨P1, P1, P1, trivial⟩, (hG17.trans hG18).le, rfl, ?_⟩
      refine Td [15] 18 65535 2 QOk.ctxG [(82, .v (.agg #[N6 (unw last g_.s3), N3 (((findO os_ 8).1.2.1).getD 0 0), N8 g_.s5, N6 (ct ((findO os_ 174).1.1) ((findO os_ 174).1.2.1) 0), N6 (ct ((findO os_ 174).1.1) ((findO os_ 174).1.2.1) 1), N6 (ct ((findO os_ 174).1.1) ((findO os_ 174).1.2.1) 2)]))] ⟨P1, P1, P1, trivial⟩ ?_
      refine Do 16 18 131071 B75 1022 ?_
      refine X.simple (by kernel_rfl) ?_
      refine X.back ⟨⟨P1, P1, P1, trivial⟩, (hG17.trans hG18).le, rfl, ?_⟩
      refine Ts [17] 18 262143 0 1 QOk.ctxG ?_
      refine XD.done (by kernel_rfl) ?_
      refine Rn 2 (.ex .ret) [] ⟨83, [(6, .own 6 0), (7, I6 0)], [(6, ⟨103, [I6 (unw last g_.s3), I3 (((findO os_ 8).1.2.1).getD 0 0), I8 g_.s5, I6 (ct ((findO os_ 174).1.1) ((findO os_ 174).1.2.1) 0), I6 (ct ((findO os_ 174).1.1) ((findO os_ 174).1.2.1) 1), I6 (ct ((findO os_ 174).1.1) ((findO os_ 174).1.2.1) 2)]⟩)]⟩ ?_
      refine Dg (.inl rfl) [.agg #[N6 (unw last g_.s3), N3 (((findO os_ 8).1.2.1).getD 0 0), N8 g_.s5, N6 (ct ((findO os_ 174).1.1) ((findO os_ 174).1.2.1) 0), N6 (ct ((findO os_ 174).1.1) ((findO os_ 174).1.2.1) 1), N6 (ct ((findO os_ 174).1.1) ((findO os_ 174).1.2.1) 2)], N6 0] [] rfl (((((((((hG1.trans hG2).trans hG3).trans hG5).trans hG7).trans hG10).trans hG12).trans hG17).trans hG18)) ?_
      rw [rdP_fine hD_ he_ hk_]
      have hx_ : ackOf g_ os_ last = ⟨unw last g_.s3, (findO os_ 8).1.2.1.getD 0 0, g_.s5, ct (findO os_ 174).1.1 (findO os_ 174).1.2.1 0, ct (findO os_ 174).1.1 (findO os_ 174).1.2.1 1, ct (findO os_ 174).1.1 (findO os_ 174).1.2.1 2⟩ := by
       unfold ackOf
       rw [if_neg (by rw [h172_]; decide)]
      rw [hx_]
      exact ⟨rfl, rfl⟩
     ·
      replace h11 : ((findO os_ 172).2) = true := by first | (simpa using h11; done) | (have h_ := congrArg (fun b_ => !b_) h11; simpa only [Bool.not_not, Bool.not_true, Bool.not_false] using h_)
      have h172_ : (findO os_ 172).2 = true := h11
      refine Ra 4 (Qc B75 1022) 1 [Qs B75 1023] [] ?_
      have hb_d19 := hb
      have hr3_d19 := hr3
      have hr5_d19 := hr5
      have hr10_d19 := hr10
      refine Oh 11 B75 1022 18 [⟨some 10, 10, 82, [I1 g_.s0, I1 g_.s1, I3 g_.s2, I3 g_.s3, I8 g_.s4, I8 g_.s5, I8 g_.s6, I1 g_.s7, I1 g_.s8, I1 g_.s9, VL A2 os_.length c2, VT d_]⟩, ⟨some 12, 12, 65, [I6 ((findO os_ 8).1.1), VL B5 ((findO os_ 8).1.2.1.length) c5, VT ((findO os_ 8).1.2.2)]⟩, ⟨some 14, 14, 65, [I6 ((findO os_ 172).1.1), VL B10 ((findO os_ 172).1.2.1.length) c10, VT ((findO os_ 172).1.2.2)]⟩] [] [] ⟨P1, P1, P1, trivial⟩ Mt (fun ρ0 => ?_)
      refine Tk 0 18 1 B75 1022 (I6 last) QOk.ctxG ?_
      refine Tk 1 18 3 B75 1022 (.own 10 0) QOk.ctxG ?_
      refine Tk 2 18 7 B75 1022 (.own 10 3) QOk.ctxG ?_
      refine Tk 3 18 15 B75 1022 (I3 g_.s3) QOk.ctxG ?_
      refine Tk 4 18 31 B75 1022 (I7 (IntKind.u64.wrap g_.s3)) QOk.ctxG ?_
      refine Dk 71 .u64 g_.s3 rfl (wu64 (by omega) (by omega)) ?_
      refine Tk 6 18 95 B75 1022 (.own 12 1) QOk.ctxG ?_
      refine Tk 7 18 223 B75 1022 (VL B5 ((findO os_ 8).1.2.1.length) c5) QOk.ctxG ?_
      have b20 : (0 : Int) ≤ 0 := by omega
      have b21 : 0 < (((findO os_ 8).1.2.1.length : Nat) : Int) := by omega
      obtain ⟨at22, lo22, hi22⟩ := At.int [] hr5_d19 0 (by omega)
      simp only [IntKind.lo, IntKind.hi] at lo22 hi22
      refine Dx 8 18 479 B75 1022 63 29 1 B5 ((findO os_ 8).1.2.1.length) c5 .i64 0 (.tmp 74) (.const (N6 0)) QOk.ctxG b20 b21 (fun _ _ => rowAt.so hr5_d19 (by omega)) ?_
      refine Dl 9 18 991 B75 1022 29 B5 (0 * 1) (.tmp 75) (N3 (((findO os_ 8).1.2.1).getD 0 0)) [N3 (((findO os_ 8).1.2.1).getD 0 0)] QOk.ctxG at22 ?_
      refine Td [10, 11, 12, 13] 18 16351 5 QOk.ctxG [(67, I6 last), (71, I7 g_.s3), (76, I3 (((findO os_ 8).1.2.1).getD 0 0)), (79, I8 g_.s5), (80, .v (.agg #[N6 ((findO os_ 172).1.1), .slice B10 ((findO os_ 172).1.2.1.length) c10, .string ((findO os_ 172).1.2.2)]))] ⟨P1, P1, P1, trivial⟩ ?_
      refine Do 5 18 16383 B75 1022 ?_
      refine Cg 129 [N6 last, N7 g_.s3, N6 32] 0 (Unwrap_ok last g_.s3 _) ?_
      rintro v23 G23 rows23 hG23 ⟨rfl, rfl⟩
      replace hb := hb.mono hG23.le
      replace hr3 := hr3.mono hG23.le
      replace hr5 := hr5.mono hG23.le
      replace hr10 := hr10.mono hG23.le
      refine X.back ⟨⟨P1, P1, P1, trivial⟩, hG23.le, rfl, ?_⟩
      refine Dn ⟨83, [(6, .own 6 0), (7, I6 0), (10, .own 10 0), (12, .own 12 0), (14, .own 14 0), (72, I6 (unw last g_.s3)), (76, I3 (((findO os_ 8).1.2.1).getD 0 0)), (79, I8 g_.s5), (80, .v (.agg #[N6 ((findO os_ 172).1.1), .slice B10 ((findO os_ 172).1.2.1.length) c10, .string ((findO os_ 172).1.2.2)]))], [(6, ⟨103, [I6 0, I3 0, I8 0, I6 0, I6 0, I6 0]⟩), (10, ⟨82, [I1 g_.s0, I1 g_.s1, I3 g_.s2, I3 g_.s3, I8 g_.s4, I8 g_.s5, I8 g_.s6, I1 g_.s7, I1 g_.s8, I1 g_.s9, VL A2 os_.length c2, VT d_]⟩), (12, ⟨65, [I6 ((findO os_ 8).1.1), VL B5 ((findO os_ 8).1.2.1.length) c5, VT ((findO os_ 8).1.2.2)]⟩), (14, ⟨65, [I6 ((findO os_ 172).1.1), VL B10 ((findO os_ 172).1.2.1.length) c10, VT ((findO os_ 172).1.2.2)]⟩)]⟩ ⟨P1, P1, P1, trivial⟩ ?_
      refine Do 14 18 32767 B75 1022 ?_
      refine Cg 54 [.agg #[N6 ((findO os_ 172).1.1), .slice B10 ((findO os_ 172).1.2.1.length) c10, .string ((findO os_ 172).1.2.2)]] 0 (Counters_ok ((findO os_ 172).1.1) B10 c10 ((findO os_ 172).1.2.1) ((findO os_ 172).1.2.2) _ hr10 hl10 hm10) ?_
      rintro v24 G24 rows24 hG24 ⟨rfl, rfl⟩
      replace hb := hb.mono hG24.le
      replace hr3 := hr3.mono hG24.le
      replace hr5 := hr5.mono hG24.le
      replace hr10 := hr10.mono hG24.le
      refine X.back ⟨⟨P1, P1, P1, trivial⟩, (hG23.trans hG24).le, rfl, ?_⟩
      refine Td [15] 18 65535 2 QOk.ctxG [(82, .v (.agg #[N6 (unw last g_.s3), N3 (((findO os_ 8).1.2.1).getD 0 0), N8 g_.s5, N6 (ct ((findO os_ 172).1.1) ((findO os_ 172).1.2.1) 0), N6 (ct ((findO os_ 172).1.1) ((findO os_ 172).1.2.1) 1), N6 (ct ((findO os_ 172).1.1) ((findO os_ 172).1.2.1) 2)]))] ⟨P1, P1, P1, trivial⟩ ?_
      refine Do 16 18 131071 B75 1022 ?_
      refine X.simple (by kernel_rfl) ?_
      refine X.back ⟨⟨P1, P1, P1, trivial⟩, (hG23.trans hG24).le, rfl, ?_⟩
      refine Ts [17] 18 262143 0 1 QOk.ctxG ?_
      refine XD.done (by kernel_rfl) ?_
      refine Rn 2 (.ex .ret) [] ⟨83, [(6, .own 6 0), (7, I6 0)], [(6, ⟨103, [I6 (unw last g_.s3), I3 (((findO os_ 8).1.2.1).getD 0 0), I8 g_.s5, I6 (ct ((findO os_ 172).1.1) ((findO os_ 172).1.2.1) 0), I6 (ct ((findO os_ 172).1.1) ((findO os_ 172).1.2.1) 1), I6 (ct ((findO os_ 172).1.1) ((findO os_ 172).1.2.1) 2)]⟩)]⟩ ?_
      refine Dg (.inl rfl) [.agg #[N6 (unw last g_.s3), N3 (((findO os_ 8).1.2.1).getD 0 0), N8 g_.s5, N6 (ct ((findO os_ 172).1.1) ((findO os_ 172).1.2.1) 0), N6 (ct ((findO os_ 172).1.1) ((findO os_ 172).1.2.1) 1), N6 (ct ((findO os_ 172).1.1) ((findO os_ 172).1.2.1) 2)], N6 0] [] rfl ((((((((hG1.trans hG2).trans hG3).trans hG5).trans hG7).trans hG10).trans hG23).trans hG24)) ?_
      rw [rdP_fine hD_ he_ hk_]
      have hx_ : ackOf g_ os_ last = ⟨unw last g_.s3, (findO os_ 8).1.2.1.getD 0 0, g_.s5, ct (findO os_ 172).1.1 (findO os_ 172).1.2.1 0, ct (findO os_ 172).1.1 (findO os_ 172).1.2.1 1, ct (findO os_ 172).1.1 (findO os_ 172).1.2.1 2⟩ := by
       unfold ackOf
       rw [if_pos h172_]
      rw [hx_]
      exact ⟨rfl, rfl⟩
end Go.Proofs.YtjgpdbkkpomhjaaX
