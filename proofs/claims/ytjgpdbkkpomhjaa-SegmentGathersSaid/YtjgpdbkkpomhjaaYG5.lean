/- leatlaw13.works. Walked; printed by a small program of this session. Conditions: none. -/
import Derived.Test.YtjgpdbkkpomhjaaProg
import Derived.KernelRfl
import Derived.Test.YtjgpdbkkpomhjaaYG4
namespace Go.Proofs.YtjgpdbkkpomhjaaX
open Go.RowKit
open Go.Proofs.YtjgpdbkkpomhjaaW.PrintLast
set_option linter.unusedVariables false
set_option linter.unusedSimpArgs false
set_option maxRecDepth 100000
/-- leat/leatlaw13.works -/
noncomputable def B64 : Code := bodyOf Try.f64
set_option maxHeartbeats 1000000 in
theorem works13_ok (G : Mem) : CallsG Try.prog 64 [] G (fun _ v rows => v = .bool true ∧ rows = []) := by
 refine CallsG.enter Try.func64 rfl rfl ?_
 intro w
 refine Rn 9 (Qo B64 6 2) [Qs B64 7] ⟨47, [(0, VB false), (8, .v (.agg #[N8 0, N8 0, N8 0, N8 0])), (9, .v (.agg #[N8 0, N8 0, N8 0, N8 0]))], []⟩ ?_
 have hsd_ := SegDec_ok ex0 none 0 [] G ex0_ok (rowAt.nil _ _ _) (Nat.zero_le _) (Nat.zero_le _)
 rw [show decS ex0 [] = (seg0, 3) from decS_short (by decide)] at hsd_
 refine Cg 61 [.agg #[N8 0, N8 0, N8 0, N8 0], .agg #[N8 0, N8 0, N8 0, N8 0], .slice none 0 0] 410 hsd_ ?_
 rintro v1 G1 rows1 hG1 ⟨A1, c1, cs1, rfl, rfl, hcs1⟩
 refine X.asR (R' := [(410, RR 65 3 A1 0 c1 cs1)]) rfl ?_
 refine X.tellR [410] (R' := [(410, RR 65 3 A1 0 c1 cs1)]) rfl ?_
 refine X.capLe (i := 410) (q := (RR 65 3 A1 0 c1 cs1)) (n := 0) (c := c1) (A := A1) rfl rfl ?_
 intro hle2 hmx2
 refine X.freezeD (d := optD) (i := 410) (n := 0) (c := c1) (A := A1) ([]) rfl hcs1 (by decide) (by kernel_rfl) (fun _ h => h) ?_
 intro G2 hG2 hr2
 refine Rn 13 (Qo B64 14 3) [Qs B64 15] ⟨47, [(0, VB false), (2, I6 3), (14, .v (.agg #[N8 1, N8 0, N8 0, N8 0])), (15, .v (.agg #[N8 2, N8 0, N8 0, N8 0])), (16, .v (.agg #[N1 0, N1 0, N3 0, N3 0, N8 0, N8 0, N8 0, N1 0, N1 0, N1 0, .slice none 0 0, .string (⟨#[97]⟩ : ByteArray)]))], []⟩ ?_
 refine Cg 66 [.agg #[N8 1, N8 0, N8 0, N8 0], .agg #[N8 2, N8 0, N8 0, N8 0], .agg #[N1 0, N1 0, N3 0, N3 0, N8 0, N8 0, N8 0, N1 0, N1 0, N1 0, .slice none 0 0, .string (⟨#[97]⟩ : ByteArray)]] 400 (SegEnc_ok exA hd0 none 0 [] exD _ exA_ok hd0_ok (rowAt.nil _ _ _) (Nat.zero_le _) (Nat.zero_le _)) ?_
 rintro v3 G3 rows3 hG3 ⟨A3, c3, rfl, rfl⟩
 replace hr2 := hr2.mono hG3.le
 refine X.asR (R' := [(400, RR 5 1 A3 ((encS exA hd0 [] exD).1.length) c3 (((encS exA hd0 [] exD).1).map (Value.int .u8)))]) rfl ?_
 refine Rn 12 (Qo B64 30 3) [Qs B64 31] ⟨47, [(0, VB false), (2, I6 3), (3, VL A3 ((encS exA hd0 [] exD).1.length) c3), (4, I6 ((encS exA hd0 [] exD).2)), (21, .v (.agg #[N8 1, N8 0, N8 0, N8 0])), (22, .v (.agg #[N8 2, N8 0, N8 0, N8 0])), (23, VL A3 ((encS exA hd0 [] exD).1.length) c3)], []⟩ ?_
 refine X.tellR [400] (R' := [(400, RR 5 1 A3 ((encS exA hd0 [] exD).1.length) c3 (((encS exA hd0 [] exD).1).map (Value.int .u8)))]) rfl ?_
 refine X.capLe (i := 400) (q := (RR 5 1 A3 ((encS exA hd0 [] exD).1.length) c3 (((encS exA hd0 [] exD).1).map (Value.int .u8)))) (n := (encS exA hd0 [] exD).1.length) (c := c3) (A := A3) rfl rfl ?_
 intro hle5 hmx5
 refine X.freezeHd (i := 400) (n := (encS exA hd0 [] exD).1.length) (c := c3) (A := A3) (kd := .u8) ((encS exA hd0 [] exD).1) rfl rfl (fun x_ hx_ => by have h_ := encS_bytes exA_ok hd0_ok x_ hx_; simp only [IntKind.lo, IntKind.hi]; omega) (by kernel_rfl) (fun _ h => h) ?_
 intro G5 hG5 hr5
 replace hr2 := hr2.mono hG5.le
 have hsd_ := SegDec_ok exA A3 c3 ((encS exA hd0 [] exD).1) G5 exA_ok hr5 hle5 hmx5
 rw [ex_enc] at hsd_
 rw [ex_dec] at hsd_
 refine Cg 61 [.agg #[N8 1, N8 0, N8 0, N8 0], .agg #[N8 2, N8 0, N8 0, N8 0], .slice A3 ((encS exA hd0 [] exD).1.length) c3] 410 hsd_ ?_
 rintro v4 G4 rows4 hG4 ⟨A4, c4, cs4, rfl, rfl, hcs4⟩
 replace hr2 := hr2.mono hG4.le
 replace hr5 := hr5.mono hG4.le
 refine X.asR (R' := [(410, RR 65 3 A4 0 c4 cs4)]) rfl ?_
 refine X.tellR [410] (R' := [(410, RR 65 3 A4 0 c4 cs4)]) rfl ?_
 refine X.capLe (i := 410) (q := (RR 65 3 A4 0 c4 cs4)) (n := 0) (c := c4) (A := A4) rfl rfl ?_
 intro hle6 hmx6
 refine X.freezeD (d := optD) (i := 410) (n := 0) (c := c4) (A := A4) ([]) rfl hcs4 (by decide) (by kernel_rfl) (fun _ h => h) ?_
 intro G6 hG6 hr6
 replace hr2 := hr2.mono hG6.le
 replace hr5 := hr5.mono hG6.le
 refine Rn 17 (Qo B64 62 7) [Qs B64 63] ⟨47, [(0, VB false), (3, VL A3 ((encS exA hd0 [] exD).1.length) c3), (5, .own 5 0), (6, I6 0), (33, VB (((encS exA hd0 [] exD).2) == 0))], [(5, ⟨82, [I1 0, I1 0, I3 0, I3 0, I8 (offS []), I8 0, I8 0, I1 0, I1 (sumS exA hd0 [] exD), I1 0, VL A4 0 c4, VT exD]⟩)]⟩ ?_
 refine X.isTrue 33 rfl (by rw [ex_enc]; rfl) ?_
 refine Rn 9 (Qo B64 62 16) [Qs B64 63] ⟨47, [(0, VB false), (3, VL A3 ((encS exA hd0 [] exD).1.length) c3), (42, VB (exD.toList == (⟨#[97]⟩ : ByteArray).toList))], []⟩ ?_
 refine X.isTrue 42 rfl (by unfold exD; simp) ?_
 refine Rn 8 (.ex .ret) [] ⟨47, [(0, VB ((((encS exA hd0 [] exD).1.length : Nat) : Int) == 21))], []⟩ ?_
 refine Dg (.inl rfl) [.bool ((((encS exA hd0 [] exD).1.length : Nat) : Int) == 21)] [] rfl ((((((hG1.trans hG2).trans hG3).trans hG5).trans hG4).trans hG6)) ?_
 exact ⟨congrArg Value.bool (by rw [ex_enc]; rfl), rfl⟩
end Go.Proofs.YtjgpdbkkpomhjaaX
