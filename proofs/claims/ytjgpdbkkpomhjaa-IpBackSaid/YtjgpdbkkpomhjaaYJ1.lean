/- ip.header. Walked; printed by a small program of this session. Conditions: none. -/
import Derived.Test.YtjgpdbkkpomhjaaProg
import Derived.KernelRfl
import Derived.Test.YtjgpdbkkpomhjaaYJ0
namespace Go.Proofs.YtjgpdbkkpomhjaaX
open Go.RowKit
open Go.Proofs.YtjgpdbkkpomhjaaW.PrintLast
set_option linter.unusedVariables false
set_option linter.unusedSimpArgs false
set_option maxRecDepth 100000
/-- leat/ip.header-1 -/
noncomputable def B163 : Code := bodyOf Try.f163
set_option maxHeartbeats 1000000 in
theorem twoI_ok (n : Int) (hn : 0 ≤ n ∧ n ≤ 65535) (G : Mem) : CallsG Try.prog 163 [.int .u16 n] G (fun _ v rows => ∃ A', v = .slice A' 2 2 ∧ rows = [⟨5, 1, .slice A' 2 2, 2, [.int .u8 (n / 256), .int .u8 (n % 256)]⟩]) := by
 refine CallsG.enter Try.func163 rfl rfl ?_
 intro w
 refine Rn 12 (Qo B163 6 5) [Qs B163 7] ⟨9, [(2, VL none 0 0), (5, I8 (IntKind.u8.wrap (bshr .u16 n 8))), (7, I8 (IntKind.u8.wrap n))], []⟩ ?_
 refine Lt 8 5 1 2 [N8 (IntKind.u8.wrap (bshr .u16 n 8)), N8 (IntKind.u8.wrap n)] ?_
 intro A1
 refine Rn 4 (.ex .ret) [] ⟨9, [(2, VL A1 2 2)], []⟩ ?_
 refine Dg (.inl rfl) [.slice A1 2 2] [8] rfl (Ge.refl _ _) ?_
 rw [hiI hn, loI]
 exact ⟨_, rfl, rfl⟩
/-- leat/ip.header -/
noncomputable def B133 : Code := bodyOf Try.f133
set_option maxHeartbeats 4000000 in
theorem header_ok (h : Ih) (n : Int) (G : Mem) (hh : h.ok) (hn : 0 ≤ n ∧ n ≤ 65535) : CallsG Try.prog 133 [.agg #[.int .u8 h.x0, .int .u8 h.x1, .int .u8 h.x2, .int .u16 h.x3, .int .u16 h.x4, .int .u8 h.x5, .int .u8 h.x6, .int .u8 h.x7, .int .u8 h.x8, .int .u8 h.x9, .int .u8 h.y0, .int .u8 h.y1, .int .u8 h.y2], .int .i64 n] G (fun _ v rows => ∃ A' c', v = .slice A' 20 c' ∧ rows = [⟨5, 1, .slice A' 20 c', 20, (rawI h n 0).map (Value.int .u8)⟩]) := by
 obtain ⟨h0, h1, h2, h3, h4, h5, h6, h7, h8, h9, k0, k1, k2⟩ := hh
 have hh : h.ok := ⟨h0, h1, h2, h3, h4, h5, h6, h7, h8, h9, k0, k1, k2⟩
 refine CallsG.enter Try.func133 rfl rfl ?_
 intro w
 refine Rn 12 (Qc B133 14) [Qs B133 15] ⟨32, [(1, I6 n), (2, .own 2 0), (4, VL none 0 0), (5, .fn 163 [])], [(2, ⟨113, [I8 h.x0, I8 h.x1, I8 h.x2, I1 h.x3, I1 h.x4, I8 h.x5, I8 h.x6, I8 h.x7, I8 h.x8, I8 h.x9, I8 h.y0, I8 h.y1, I8 h.y2]⟩)]⟩ ?_
 refine X.boxOutS (t := 2) (b := 2) (bt := 113) (cs := [I8 h.x0, I8 h.x1, I8 h.x2, I1 h.x3, I1 h.x4, I8 h.x5, I8 h.x6, I8 h.x7, I8 h.x8, I8 h.x9, I8 h.y0, I8 h.y1, I8 h.y2]) [N8 h.x0, N8 h.x1, N8 h.x2, N1 h.x3, N1 h.x4, N8 h.x5, N8 h.x6, N8 h.x7, N8 h.x8, N8 h.x9, N8 h.y0, N8 h.y1, N8 h.y2] rfl rfl rfl (fun _ h => h) ?_
 intro g1 G1 hG1 hr1
 refine Rn 0 (Qc B133 14) [Qs B133 15] ⟨32, [(1, I6 n), (2, .v (elt (some ⟨g1, 0, none⟩) 0)), (4, VL none 0 0), (5, .fn 163 [])], []⟩ ?_
 have hr1_d2 := hr1
 refine Og 2 B133 14 27 [] [] [] trivial (by simp) (fun ρ0 => ?_)
 refine XD.field (i := 0) (l' := (lb 27 1)) (o := (oA B133 (pa 14) 0)) (t := 113) (f := 0) (n := 0) (A := (some ⟨g1, 0, none⟩)) (j := 0) (x := .tmp 2) QOk.ctxG (by kernel_rfl) (by kernel_rfl) (by kernel_rfl) (by kernel_rfl) (by kernel_rfl) (by kernel_rfl) (by kernel_rfl) ?_
 refine Dl 1 27 3 B133 14 5 (some ⟨g1, 0, none⟩) (0 + 0) (.tmp 6) (N8 h.x0) [N8 h.x0] QOk.ctxG ((At.of_cells _ hr1_d2).part 0 1) ?_
 refine Tk 3 27 11 B133 14 (.fn 163 []) QOk.ctxG ?_
 refine Tk 4 27 27 B133 14 (I6 n) QOk.ctxG ?_
 refine Tk 5 27 59 B133 14 (I1 (IntKind.u16.wrap n)) QOk.ctxG ?_
 refine Dk 11 .u16 (n) rfl (wu16 (by omega) (by omega)) ?_
 refine Tk 7 27 187 B133 14 (.fn 163 []) QOk.ctxG ?_
 refine XD.field (i := 8) (l' := (lb 27 443)) (o := (oA B133 (pa 14) 8)) (t := 113) (f := 3) (n := 3) (A := (some ⟨g1, 0, none⟩)) (j := 0) (x := .tmp 2) QOk.ctxG (by kernel_rfl) (by kernel_rfl) (by kernel_rfl) (by kernel_rfl) (by kernel_rfl) (by kernel_rfl) (by kernel_rfl) ?_
 refine Dl 9 27 955 B133 14 23 (some ⟨g1, 0, none⟩) (0 + 3) (.tmp 14) (N1 h.x3) [N1 h.x3] QOk.ctxG ((At.of_cells _ hr1_d2).part 3 1) ?_
 refine Tk 11 27 3003 B133 14 (.fn 163 []) QOk.ctxG ?_
 refine XD.field (i := 12) (l' := (lb 27 7099)) (o := (oA B133 (pa 14) 12)) (t := 113) (f := 4) (n := 4) (A := (some ⟨g1, 0, none⟩)) (j := 0) (x := .tmp 2) QOk.ctxG (by kernel_rfl) (by kernel_rfl) (by kernel_rfl) (by kernel_rfl) (by kernel_rfl) (by kernel_rfl) (by kernel_rfl) ?_
 refine Dl 13 27 15291 B133 14 23 (some ⟨g1, 0, none⟩) (0 + 4) (.tmp 18) (N1 h.x4) [N1 h.x4] QOk.ctxG ((At.of_cells _ hr1_d2).part 4 1) ?_
 refine XD.field (i := 15) (l' := (lb 27 48059)) (o := (oA B133 (pa 14) 15)) (t := 113) (f := 1) (n := 1) (A := (some ⟨g1, 0, none⟩)) (j := 0) (x := .tmp 2) QOk.ctxG (by kernel_rfl) (by kernel_rfl) (by kernel_rfl) (by kernel_rfl) (by kernel_rfl) (by kernel_rfl) (by kernel_rfl) ?_
 refine Dl 16 27 113595 B133 14 5 (some ⟨g1, 0, none⟩) (0 + 1) (.tmp 21) (N8 h.x1) [N8 h.x1] QOk.ctxG ((At.of_cells _ hr1_d2).part 1 1) ?_
 refine XD.field (i := 17) (l' := (lb 27 244667)) (o := (oA B133 (pa 14) 17)) (t := 113) (f := 2) (n := 2) (A := (some ⟨g1, 0, none⟩)) (j := 0) (x := .tmp 2) QOk.ctxG (by kernel_rfl) (by kernel_rfl) (by kernel_rfl) (by kernel_rfl) (by kernel_rfl) (by kernel_rfl) (by kernel_rfl) ?_
 refine Dl 18 27 506811 B133 14 5 (some ⟨g1, 0, none⟩) (0 + 2) (.tmp 23) (N8 h.x2) [N8 h.x2] QOk.ctxG ((At.of_cells _ hr1_d2).part 2 1) ?_
 refine XD.field (i := 20) (l' := (lb 27 1555387)) (o := (oA B133 (pa 14) 20)) (t := 113) (f := 5) (n := 5) (A := (some ⟨g1, 0, none⟩)) (j := 0) (x := .tmp 2) QOk.ctxG (by kernel_rfl) (by kernel_rfl) (by kernel_rfl) (by kernel_rfl) (by kernel_rfl) (by kernel_rfl) (by kernel_rfl) ?_
 refine Tk 21 27 3652539 B133 14 (VL (some ⟨g1, 5, none⟩) 4 4) QOk.ctxG ?_
 refine XD.field (i := 22) (l' := (lb 27 7846843)) (o := (oA B133 (pa 14) 22)) (t := 113) (f := 6) (n := 9) (A := (some ⟨g1, 0, none⟩)) (j := 0) (x := .tmp 2) QOk.ctxG (by kernel_rfl) (by kernel_rfl) (by kernel_rfl) (by kernel_rfl) (by kernel_rfl) (by kernel_rfl) (by kernel_rfl) ?_
 refine Tk 23 27 16235451 B133 14 (VL (some ⟨g1, 9, none⟩) 4 4) QOk.ctxG ?_
 refine XD.joinA (α := Option Addr × Option Addr × Option Addr × Option Addr × Option Addr) (fun x_ => ⟨32, [(4, VL none 0 0), (8, VL x_.1 2 2), (12, VL x_.2.1 2 2), (16, VL x_.2.2.1 2 2), (20, VL x_.2.2.2.1 2 2), (25, VL x_.2.2.2.2 4 4), (27, VL (some ⟨g1, 5, none⟩) 4 4), (29, VL (some ⟨g1, 9, none⟩) 4 4)], []⟩) (fun x_ => [(8, RR 5 1 x_.1 2 2 [N8 69, N8 h.x0]), (25, RR 5 1 x_.2.2.2.2 4 4 [N8 h.x1, N8 h.x2, N8 0, N8 0]), (612, RR 5 1 x_.2.1 2 2 [N8 (n / 256), N8 (n % 256)]), (616, RR 5 1 x_.2.2.1 2 2 [N8 (h.x3 / 256), N8 (h.x3 % 256)]), (620, RR 5 1 x_.2.2.2.1 2 2 [N8 (h.x4 / 256), N8 (h.x4 % 256)])]) (lb 27 16777215) 3 ?_ fun hL2_16777215 => ?_
 ·
  rintro ⟨A1203, A2803, A4403, A6003, A8003⟩ G11603 hG11603
  replace hr1 := hr1.mono hG11603.le
  refine Dn ⟨32, [(4, VL none 0 0), (8, VL A1203 2 2), (12, VL A2803 2 2), (16, VL A4403 2 2), (20, VL A6003 2 2), (25, VL A8003 4 4), (27, VL (some ⟨g1, 5, none⟩) 4 4), (29, VL (some ⟨g1, 9, none⟩) 4 4)], []⟩ trivial ?_
  refine XD.rows [8, 25, 612, 616, 620] (R' := [(8, RR 5 1 A1203 2 2 [N8 69, N8 h.x0]), (25, RR 5 1 A8003 4 4 [N8 h.x1, N8 h.x2, N8 0, N8 0]), (612, RR 5 1 A2803 2 2 [N8 (n / 256), N8 (n % 256)]), (616, RR 5 1 A4403 2 2 [N8 (h.x3 / 256), N8 (h.x3 % 256)]), (620, RR 5 1 A6003 2 2 [N8 (h.x4 / 256), N8 (h.x4 % 256)])]) rfl rfl ?_
  refine Dn ⟨32, [(4, VL none 0 0), (8, VL A1203 2 2), (12, VL A2803 2 2), (16, VL A4403 2 2), (20, VL A6003 2 2), (25, VL A8003 4 4), (27, VL (some ⟨g1, 5, none⟩) 4 4), (29, VL (some ⟨g1, 9, none⟩) 4 4)], []⟩ trivial ?_
  refine Do 24 27 33554431 B133 14 ?_
  refine X.tellR [8, 25, 612, 616, 620] (R' := [(8, RR 5 1 A1203 2 2 [N8 69, N8 h.x0]), (25, RR 5 1 A8003 4 4 [N8 h.x1, N8 h.x2, N8 0, N8 0]), (612, RR 5 1 A2803 2 2 [N8 (n / 256), N8 (n % 256)]), (616, RR 5 1 A4403 2 2 [N8 (h.x3 / 256), N8 (h.x3 % 256)]), (620, RR 5 1 A6003 2 2 [N8 (h.x4 / 256), N8 (h.x4 % 256)])]) rfl ?_
  refine X.capLe (i := 8) (q := (RR 5 1 A1203 2 2 [N8 69, N8 h.x0])) (n := 2) (c := 2) (A := A1203) rfl rfl ?_
  intro hle10003 hmx10003
  refine X.freezeHd (i := 8) (n := 2) (c := 2) (A := A1203) (kd := .u8) ([69, h.x0]) rfl rfl (by intro x_ hx_; simp only [List.mem_cons, List.not_mem_nil, or_false] at hx_; simp only [IntKind.lo, IntKind.hi]; omega) (by kernel_rfl) (fun _ h => h) ?_
  intro G10003 hG10003 hr10003
  replace hr1 := hr1.mono hG10003.le
  refine X.tellR [612, 25, 616, 620] (R' := [(612, RR 5 1 A2803 2 2 [N8 (n / 256), N8 (n % 256)]), (25, RR 5 1 A8003 4 4 [N8 h.x1, N8 h.x2, N8 0, N8 0]), (616, RR 5 1 A4403 2 2 [N8 (h.x3 / 256), N8 (h.x3 % 256)]), (620, RR 5 1 A6003 2 2 [N8 (h.x4 / 256), N8 (h.x4 % 256)])]) rfl ?_
  refine X.capLe (i := 612) (q := (RR 5 1 A2803 2 2 [N8 (n / 256), N8 (n % 256)])) (n := 2) (c := 2) (A := A2803) rfl rfl ?_
  intro hle10004 hmx10004
  refine X.freezeHd (i := 612) (n := 2) (c := 2) (A := A2803) (kd := .u8) ([n / 256, n % 256]) rfl rfl (by intro x_ hx_; simp only [List.mem_cons, List.not_mem_nil, or_false] at hx_; simp only [IntKind.lo, IntKind.hi]; omega) (by kernel_rfl) (fun _ h => h) ?_
  intro G10004 hG10004 hr10004
  replace hr1 := hr1.mono hG10004.le
  replace hr10003 := hr10003.mono hG10004.le
  refine X.tellR [616, 25, 620] (R' := [(616, RR 5 1 A4403 2 2 [N8 (h.x3 / 256), N8 (h.x3 % 256)]), (25, RR 5 1 A8003 4 4 [N8 h.x1, N8 h.x2, N8 0, N8 0]), (620, RR 5 1 A6003 2 2 [N8 (h.x4 / 256), N8 (h.x4 % 256)])]) rfl ?_
  refine X.capLe (i := 616) (q := (RR 5 1 A4403 2 2 [N8 (h.x3 / 256), N8 (h.x3 % 256)])) (n := 2) (c := 2) (A := A4403) rfl rfl ?_
  intro hle10005 hmx10005
  refine X.freezeHd (i := 616) (n := 2) (c := 2) (A := A4403) (kd := .u8) ([h.x3 / 256, h.x3 % 256]) rfl rfl (by intro x_ hx_; simp only [List.mem_cons, List.not_mem_nil, or_false] at hx_; simp only [IntKind.lo, IntKind.hi]; omega) (by kernel_rfl) (fun _ h => h) ?_
  intro G10005 hG10005 hr10005
  replace hr1 := hr1.mono hG10005.le
  replace hr10003 := hr10003.mono hG10005.le
  replace hr10004 := hr10004.mono hG10005.le
  refine X.tellR [620, 25] (R' := [(620, RR 5 1 A6003 2 2 [N8 (h.x4 / 256), N8 (h.x4 % 256)]), (25, RR 5 1 A8003 4 4 [N8 h.x1, N8 h.x2, N8 0, N8 0])]) rfl ?_
  refine X.capLe (i := 620) (q := (RR 5 1 A6003 2 2 [N8 (h.x4 / 256), N8 (h.x4 % 256)])) (n := 2) (c := 2) (A := A6003) rfl rfl ?_
  intro hle10006 hmx10006
  refine X.freezeHd (i := 620) (n := 2) (c := 2) (A := A6003) (kd := .u8) ([h.x4 / 256, h.x4 % 256]) rfl rfl (by intro x_ hx_; simp only [List.mem_cons, List.not_mem_nil, or_false] at hx_; simp only [IntKind.lo, IntKind.hi]; omega) (by kernel_rfl) (fun _ h => h) ?_
  intro G10006 hG10006 hr10006
  replace hr1 := hr1.mono hG10006.le
  replace hr10003 := hr10003.mono hG10006.le
  replace hr10004 := hr10004.mono hG10006.le
  replace hr10005 := hr10005.mono hG10006.le
  refine X.tellR [25] (R' := [(25, RR 5 1 A8003 4 4 [N8 h.x1, N8 h.x2, N8 0, N8 0])]) rfl ?_
  refine X.capLe (i := 25) (q := (RR 5 1 A8003 4 4 [N8 h.x1, N8 h.x2, N8 0, N8 0])) (n := 4) (c := 4) (A := A8003) rfl rfl ?_
  intro hle10007 hmx10007
  refine X.freezeHd (i := 25) (n := 4) (c := 4) (A := A8003) (kd := .u8) ([h.x1, h.x2, 0, 0]) rfl rfl (by intro x_ hx_; simp only [List.mem_cons, List.not_mem_nil, or_false] at hx_; simp only [IntKind.lo, IntKind.hi]; omega) (by kernel_rfl) (fun _ h => h) ?_
  intro G10007 hG10007 hr10007
  replace hr1 := hr1.mono hG10007.le
  replace hr10003 := hr10003.mono hG10007.le
  replace hr10004 := hr10004.mono hG10007.le
  replace hr10005 := hr10005.mono hG10007.le
  replace hr10006 := hr10006.mono hG10007.le
  refine Lt 30 22 1 7 [.slice A1203 2 2, .slice A2803 2 2, .slice A4403 2 2, .slice A6003 2 2, .slice A8003 4 4, .slice (some ⟨g1, 5, none⟩) 4 4, .slice (some ⟨g1, 9, none⟩) 4 4] ?_
  intro A10008
  refine X.back ⟨trivial, (((((hG11603.trans hG10003).trans hG10004).trans hG10005).trans hG10006).trans hG10007).le, rfl, ?_⟩
  refine Dn ⟨32, [(4, VL none 0 0), (30, VL A10008 7 7)], []⟩ trivial ?_
  refine Do 25 27 67108863 B133 14 ?_
  refine X.tellR [30] (R' := [(30, RR 22 1 A10008 7 7 [.slice A1203 2 2, .slice A2803 2 2, .slice A4403 2 2, .slice A6003 2 2, .slice A8003 4 4, .slice (some ⟨g1, 5, none⟩) 4 4, .slice (some ⟨g1, 9, none⟩) 4 4])]) rfl ?_
  refine X.freezeT (d := D.slice (D.int .u8)) (i := 30) (q := (RR 22 1 A10008 7 7 [.slice A1203 2 2, .slice A2803 2 2, .slice A4403 2 2, .slice A6003 2 2, .slice A8003 4 4, .slice (some ⟨g1, 5, none⟩) 4 4, .slice (some ⟨g1, 9, none⟩) 4 4])) (n := 7) (c := 7) (A := A10008) [[69, h.x0], [n / 256, n % 256], [h.x3 / 256, h.x3 % 256], [h.x4 / 256, h.x4 % 256], [h.x1, h.x2, 0, 0], [h.x5, h.x6, h.x7, h.x8], [h.x9, h.y0, h.y1, h.y2]] rfl (by decide) (fun G_ hl_ => ⟨_, _, rfl, rep_sliceN rfl hle10003 hmx10003 (hr10003.mono hl_), ⟨_, _, rfl, rep_sliceN rfl hle10004 hmx10004 (hr10004.mono hl_), ⟨_, _, rfl, rep_sliceN rfl hle10005 hmx10005 (hr10005.mono hl_), ⟨_, _, rfl, rep_sliceN rfl hle10006 hmx10006 (hr10006.mono hl_), ⟨_, _, rfl, rep_sliceN rfl hle10007 hmx10007 (hr10007.mono hl_), ⟨_, _, rfl, rep_sliceN rfl (Nat.le_refl 4) (by decide) ((CellsG.ints (kd := .u8) hr1 5 [h.x5, h.x6, h.x7, h.x8] rfl (by intro x_ hx_; simp only [List.mem_cons, List.not_mem_nil, or_false] at hx_; simp only [IntKind.lo, IntKind.hi]; omega)).mono hl_), ⟨_, _, rfl, rep_sliceN rfl (Nat.le_refl 4) (by decide) ((CellsG.ints (kd := .u8) hr1 9 [h.x9, h.y0, h.y1, h.y2] rfl (by intro x_ hx_; simp only [List.mem_cons, List.not_mem_nil, or_false] at hx_; simp only [IntKind.lo, IntKind.hi]; omega)).mono hl_), rfl⟩⟩⟩⟩⟩⟩⟩) (by kernel_rfl) (fun _ h => h) ?_
  intro G10403 hG10403 hr10403
  replace hr1 := hr1.mono hG10403.le
  replace hr10003 := hr10003.mono hG10403.le
  replace hr10004 := hr10004.mono hG10403.le
  replace hr10005 := hr10005.mono hG10403.le
  replace hr10006 := hr10006.mono hG10403.le
  replace hr10007 := hr10007.mono hG10403.le
  have hfl10404 : flen [[69, h.x0], [n / 256, n % 256], [h.x3 / 256, h.x3 % 256], [h.x4 / 256, h.x4 % 256], [h.x1, h.x2, 0, 0], [h.x5, h.x6, h.x7, h.x8], [h.x9, h.y0, h.y1, h.y2]] = 20 := by
   simp only [flen, List.flatten_cons, List.flatten_nil, List.append_nil, List.length_append, bytesL_length]
   rfl
  refine Cg 105 [.slice A10008 7 7] 350 (Concat_ok A10008 7 [[69, h.x0], [n / 256, n % 256], [h.x3 / 256, h.x3 % 256], [h.x4 / 256, h.x4 % 256], [h.x1, h.x2, 0, 0], [h.x5, h.x6, h.x7, h.x8], [h.x9, h.y0, h.y1, h.y2]] _ hr10403 (by simp) (by omega)) ?_
  rintro v10404 G10404 rows10404 hG10404 ⟨A10404, c10404, rfl, rfl⟩
  replace hr1 := hr1.mono hG10404.le
  replace hr10003 := hr10003.mono hG10404.le
  replace hr10004 := hr10004.mono hG10404.le
  replace hr10005 := hr10005.mono hG10404.le
  replace hr10006 := hr10006.mono hG10404.le
  replace hr10007 := hr10007.mono hG10404.le
  refine X.asR (R' := [(350, RR 5 1 A10404 (([[69, h.x0], [n / 256, n % 256], [h.x3 / 256, h.x3 % 256], [h.x4 / 256, h.x4 % 256], [h.x1, h.x2, 0, 0], [h.x5, h.x6, h.x7, h.x8], [h.x9, h.y0, h.y1, h.y2]]).flatten.length) c10404 ((([[69, h.x0], [n / 256, n % 256], [h.x3 / 256, h.x3 % 256], [h.x4 / 256, h.x4 % 256], [h.x1, h.x2, 0, 0], [h.x5, h.x6, h.x7, h.x8], [h.x9, h.y0, h.y1, h.y2]]).flatten).map (Value.int .u8)))]) rfl ?_
  have hcat10404 : ([[69, h.x0], [n / 256, n % 256], [h.x3 / 256, h.x3 % 256], [h.x4 / 256, h.x4 % 256], [h.x1, h.x2, 0, 0], [h.x5, h.x6, h.x7, h.x8], [h.x9, h.y0, h.y1, h.y2]]).flatten = rawI h n 0 := rfl
  have hcl10404 : ([[69, h.x0], [n / 256, n % 256], [h.x3 / 256, h.x3 % 256], [h.x4 / 256, h.x4 % 256], [h.x1, h.x2, 0, 0], [h.x5, h.x6, h.x7, h.x8], [h.x9, h.y0, h.y1, h.y2]]).flatten.length = 20 := hfl10404
  rw [hcl10404, hcat10404]
  refine X.back ⟨trivial, (((((((hG11603.trans hG10003).trans hG10004).trans hG10005).trans hG10006).trans hG10007).trans hG10403).trans hG10404).le, rfl, ?_⟩
  refine Ts [26] 27 134217727 0 1 QOk.ctxG ?_
  refine XD.done (by kernel_rfl) ?_
  refine Rn 2 (.ex .ret) [] ⟨32, [(4, VL A10404 20 c10404)], []⟩ ?_
  refine Dg (.inl rfl) [.slice A10404 20 c10404] [350] rfl (((((((((hG1.trans hG11603).trans hG10003).trans hG10004).trans hG10005).trans hG10006).trans hG10007).trans hG10403).trans hG10404)) ?_
  exact ⟨_, _, rfl, rfl⟩
 refine XD.joinA (α := Option Addr × Option Addr × Option Addr × Option Addr) (fun x_ => ⟨32, [(4, VL none 0 0), (8, VL x_.1 2 2), (12, VL x_.2.1 2 2), (16, VL x_.2.2.1 2 2), (20, VL x_.2.2.2 2 2), (22, I8 h.x1), (24, I8 h.x2), (27, VL (some ⟨g1, 5, none⟩) 4 4), (29, VL (some ⟨g1, 9, none⟩) 4 4)], []⟩) (fun x_ => [(8, RR 5 1 x_.1 2 2 [N8 69, N8 h.x0]), (612, RR 5 1 x_.2.1 2 2 [N8 (n / 256), N8 (n % 256)]), (616, RR 5 1 x_.2.2.1 2 2 [N8 (h.x3 / 256), N8 (h.x3 % 256)]), (620, RR 5 1 x_.2.2.2 2 2 [N8 (h.x4 / 256), N8 (h.x4 % 256)])]) (lb 27 16252927) 4 ?_ fun hL2_16252927 => ?_
 ·
  rintro ⟨A1203, A2803, A4403, A6003⟩ G11604 hG11604
  replace hr1 := hr1.mono hG11604.le
  refine Dn ⟨32, [(4, VL none 0 0), (8, VL A1203 2 2), (12, VL A2803 2 2), (16, VL A4403 2 2), (20, VL A6003 2 2), (22, I8 h.x1), (24, I8 h.x2), (27, VL (some ⟨g1, 5, none⟩) 4 4), (29, VL (some ⟨g1, 9, none⟩) 4 4)], []⟩ trivial ?_
  refine XD.rows [8, 612, 616, 620] (R' := [(8, RR 5 1 A1203 2 2 [N8 69, N8 h.x0]), (612, RR 5 1 A2803 2 2 [N8 (n / 256), N8 (n % 256)]), (616, RR 5 1 A4403 2 2 [N8 (h.x3 / 256), N8 (h.x3 % 256)]), (620, RR 5 1 A6003 2 2 [N8 (h.x4 / 256), N8 (h.x4 % 256)])]) rfl rfl ?_
  refine Dn ⟨32, [(4, VL none 0 0), (8, VL A1203 2 2), (12, VL A2803 2 2), (16, VL A4403 2 2), (20, VL A6003 2 2), (22, I8 h.x1), (24, I8 h.x2), (27, VL (some ⟨g1, 5, none⟩) 4 4), (29, VL (some ⟨g1, 9, none⟩) 4 4)], []⟩ trivial ?_
  refine Do 19 27 16777215 B133 14 ?_
  refine Lt 25 5 1 4 [N8 h.x1, N8 h.x2, N8 0, N8 0] ?_
  intro A8003
  refine X.back ⟨trivial, hG11604.le, rfl, ?_⟩
  refine Dn ⟨32, [(4, VL none 0 0), (8, VL A1203 2 2), (12, VL A2803 2 2), (16, VL A4403 2 2), (20, VL A6003 2 2), (25, VL A8003 4 4), (27, VL (some ⟨g1, 5, none⟩) 4 4), (29, VL (some ⟨g1, 9, none⟩) 4 4)], []⟩ trivial ?_
  refine XD.rows [8, 25, 612, 616, 620] (R' := [(8, RR 5 1 A1203 2 2 [N8 69, N8 h.x0]), (25, RR 5 1 A8003 4 4 [N8 h.x1, N8 h.x2, N8 0, N8 0]), (612, RR 5 1 A2803 2 2 [N8 (n / 256), N8 (n % 256)]), (616, RR 5 1 A4403 2 2 [N8 (h.x3 / 256), N8 (h.x3 % 256)]), (620, RR 5 1 A6003 2 2 [N8 (h.x4 / 256), N8 (h.x4 % 256)])]) rfl rfl ?_
  exact hL2_16777215 (A1203, A2803, A4403, A6003, A8003) _ hG11604
 refine XD.joinA (α := Option Addr × Option Addr × Option Addr × Option Addr) (fun x_ => ⟨32, [(4, VL none 0 0), (8, VL x_.1 2 2), (12, VL x_.2.1 2 2), (16, VL x_.2.2.1 2 2), (17, .fn 163 []), (19, I1 h.x4), (25, VL x_.2.2.2 4 4), (27, VL (some ⟨g1, 5, none⟩) 4 4), (29, VL (some ⟨g1, 9, none⟩) 4 4)], []⟩) (fun x_ => [(8, RR 5 1 x_.1 2 2 [N8 69, N8 h.x0]), (25, RR 5 1 x_.2.2.2 4 4 [N8 h.x1, N8 h.x2, N8 0, N8 0]), (612, RR 5 1 x_.2.1 2 2 [N8 (n / 256), N8 (n % 256)]), (616, RR 5 1 x_.2.2.1 2 2 [N8 (h.x3 / 256), N8 (h.x3 % 256)])]) (lb 27 16760831) 4 ?_ fun hL2_16760831 => ?_
 ·
  rintro ⟨A1203, A2803, A4403, A8003⟩ G11605 hG11605
  replace hr1 := hr1.mono hG11605.le
  refine Dn ⟨32, [(4, VL none 0 0), (8, VL A1203 2 2), (12, VL A2803 2 2), (16, VL A4403 2 2), (17, .fn 163 []), (19, I1 h.x4), (25, VL A8003 4 4), (27, VL (some ⟨g1, 5, none⟩) 4 4), (29, VL (some ⟨g1, 9, none⟩) 4 4)], []⟩ trivial ?_
  refine XD.rows [8, 25, 612, 616] (R' := [(8, RR 5 1 A1203 2 2 [N8 69, N8 h.x0]), (25, RR 5 1 A8003 4 4 [N8 h.x1, N8 h.x2, N8 0, N8 0]), (612, RR 5 1 A2803 2 2 [N8 (n / 256), N8 (n % 256)]), (616, RR 5 1 A4403 2 2 [N8 (h.x3 / 256), N8 (h.x3 % 256)])]) rfl rfl ?_
  refine Dn ⟨32, [(4, VL none 0 0), (8, VL A1203 2 2), (12, VL A2803 2 2), (16, VL A4403 2 2), (17, .fn 163 []), (19, I1 h.x4), (25, VL A8003 4 4), (27, VL (some ⟨g1, 5, none⟩) 4 4), (29, VL (some ⟨g1, 9, none⟩) 4 4)], []⟩ trivial ?_
  refine Do 14 27 16777215 B133 14 ?_
  refine Cg 163 [N1 h.x4] 620 (twoI_ok h.x4 (by omega) _) ?_
  rintro v6003 G6003 rows6003 hG6003 ⟨A6003, rfl, rfl⟩
  replace hr1 := hr1.mono hG6003.le
  refine X.asR (R' := [(620, RR 5 1 A6003 2 2 [N8 (h.x4 / 256), N8 (h.x4 % 256)]), (8, RR 5 1 A1203 2 2 [N8 69, N8 h.x0]), (25, RR 5 1 A8003 4 4 [N8 h.x1, N8 h.x2, N8 0, N8 0]), (612, RR 5 1 A2803 2 2 [N8 (n / 256), N8 (n % 256)]), (616, RR 5 1 A4403 2 2 [N8 (h.x3 / 256), N8 (h.x3 % 256)])]) rfl ?_
  refine X.back ⟨trivial, (hG11605.trans hG6003).le, rfl, ?_⟩
  refine Dn ⟨32, [(4, VL none 0 0), (8, VL A1203 2 2), (12, VL A2803 2 2), (16, VL A4403 2 2), (20, VL A6003 2 2), (25, VL A8003 4 4), (27, VL (some ⟨g1, 5, none⟩) 4 4), (29, VL (some ⟨g1, 9, none⟩) 4 4)], []⟩ trivial ?_
  refine XD.rows [8, 25, 612, 616, 620] (R' := [(8, RR 5 1 A1203 2 2 [N8 69, N8 h.x0]), (25, RR 5 1 A8003 4 4 [N8 h.x1, N8 h.x2, N8 0, N8 0]), (612, RR 5 1 A2803 2 2 [N8 (n / 256), N8 (n % 256)]), (616, RR 5 1 A4403 2 2 [N8 (h.x3 / 256), N8 (h.x3 % 256)]), (620, RR 5 1 A6003 2 2 [N8 (h.x4 / 256), N8 (h.x4 % 256)])]) rfl rfl ?_
  exact hL2_16777215 (A1203, A2803, A4403, A6003, A8003) _ (hG11605.trans hG6003)
 refine XD.joinA (α := Option Addr × Option Addr × Option Addr × Option Addr) (fun x_ => ⟨32, [(4, VL none 0 0), (7, I8 h.x0), (12, VL x_.1 2 2), (16, VL x_.2.1 2 2), (20, VL x_.2.2.1 2 2), (25, VL x_.2.2.2 4 4), (27, VL (some ⟨g1, 5, none⟩) 4 4), (29, VL (some ⟨g1, 9, none⟩) 4 4)], []⟩) (fun x_ => [(25, RR 5 1 x_.2.2.2 4 4 [N8 h.x1, N8 h.x2, N8 0, N8 0]), (612, RR 5 1 x_.1 2 2 [N8 (n / 256), N8 (n % 256)]), (616, RR 5 1 x_.2.1 2 2 [N8 (h.x3 / 256), N8 (h.x3 % 256)]), (620, RR 5 1 x_.2.2.1 2 2 [N8 (h.x4 / 256), N8 (h.x4 % 256)])]) (lb 27 16777211) 4 ?_ fun hL2_16777211 => ?_
 ·
  rintro ⟨A2803, A4403, A6003, A8003⟩ G11606 hG11606
  replace hr1 := hr1.mono hG11606.le
  refine Dn ⟨32, [(4, VL none 0 0), (7, I8 h.x0), (12, VL A2803 2 2), (16, VL A4403 2 2), (20, VL A6003 2 2), (25, VL A8003 4 4), (27, VL (some ⟨g1, 5, none⟩) 4 4), (29, VL (some ⟨g1, 9, none⟩) 4 4)], []⟩ trivial ?_
  refine XD.rows [25, 612, 616, 620] (R' := [(25, RR 5 1 A8003 4 4 [N8 h.x1, N8 h.x2, N8 0, N8 0]), (612, RR 5 1 A2803 2 2 [N8 (n / 256), N8 (n % 256)]), (616, RR 5 1 A4403 2 2 [N8 (h.x3 / 256), N8 (h.x3 % 256)]), (620, RR 5 1 A6003 2 2 [N8 (h.x4 / 256), N8 (h.x4 % 256)])]) rfl rfl ?_
  refine Dn ⟨32, [(4, VL none 0 0), (7, I8 h.x0), (12, VL A2803 2 2), (16, VL A4403 2 2), (20, VL A6003 2 2), (25, VL A8003 4 4), (27, VL (some ⟨g1, 5, none⟩) 4 4), (29, VL (some ⟨g1, 9, none⟩) 4 4)], []⟩ trivial ?_
  refine Do 2 27 16777215 B133 14 ?_
  refine Lt 8 5 1 2 [N8 69, N8 h.x0] ?_
  intro A1203
  refine X.back ⟨trivial, hG11606.le, rfl, ?_⟩
  refine Dn ⟨32, [(4, VL none 0 0), (8, VL A1203 2 2), (12, VL A2803 2 2), (16, VL A4403 2 2), (20, VL A6003 2 2), (25, VL A8003 4 4), (27, VL (some ⟨g1, 5, none⟩) 4 4), (29, VL (some ⟨g1, 9, none⟩) 4 4)], []⟩ trivial ?_
  refine XD.rows [8, 25, 612, 616, 620] (R' := [(8, RR 5 1 A1203 2 2 [N8 69, N8 h.x0]), (25, RR 5 1 A8003 4 4 [N8 h.x1, N8 h.x2, N8 0, N8 0]), (612, RR 5 1 A2803 2 2 [N8 (n / 256), N8 (n % 256)]), (616, RR 5 1 A4403 2 2 [N8 (h.x3 / 256), N8 (h.x3 % 256)]), (620, RR 5 1 A6003 2 2 [N8 (h.x4 / 256), N8 (h.x4 % 256)])]) rfl rfl ?_
  exact hL2_16777215 (A1203, A2803, A4403, A6003, A8003) _ hG11606
 refine XD.joinA (α := Option Addr × Option Addr × Option Addr) (fun x_ => ⟨32, [(4, VL none 0 0), (8, VL x_.1 2 2), (12, VL x_.2.1 2 2), (16, VL x_.2.2 2 2), (17, .fn 163 []), (19, I1 h.x4), (22, I8 h.x1), (24, I8 h.x2), (27, VL (some ⟨g1, 5, none⟩) 4 4), (29, VL (some ⟨g1, 9, none⟩) 4 4)], []⟩) (fun x_ => [(8, RR 5 1 x_.1 2 2 [N8 69, N8 h.x0]), (612, RR 5 1 x_.2.1 2 2 [N8 (n / 256), N8 (n % 256)]), (616, RR 5 1 x_.2.2 2 2 [N8 (h.x3 / 256), N8 (h.x3 % 256)])]) (lb 27 16236543) 5 ?_ fun hL2_16236543 => ?_
 ·
  rintro ⟨A1203, A2803, A4403⟩ G11607 hG11607
  replace hr1 := hr1.mono hG11607.le
  refine Dn ⟨32, [(4, VL none 0 0), (8, VL A1203 2 2), (12, VL A2803 2 2), (16, VL A4403 2 2), (17, .fn 163 []), (19, I1 h.x4), (22, I8 h.x1), (24, I8 h.x2), (27, VL (some ⟨g1, 5, none⟩) 4 4), (29, VL (some ⟨g1, 9, none⟩) 4 4)], []⟩ trivial ?_
  refine XD.rows [8, 612, 616] (R' := [(8, RR 5 1 A1203 2 2 [N8 69, N8 h.x0]), (612, RR 5 1 A2803 2 2 [N8 (n / 256), N8 (n % 256)]), (616, RR 5 1 A4403 2 2 [N8 (h.x3 / 256), N8 (h.x3 % 256)])]) rfl rfl ?_
  refine Dn ⟨32, [(4, VL none 0 0), (8, VL A1203 2 2), (12, VL A2803 2 2), (16, VL A4403 2 2), (17, .fn 163 []), (19, I1 h.x4), (22, I8 h.x1), (24, I8 h.x2), (27, VL (some ⟨g1, 5, none⟩) 4 4), (29, VL (some ⟨g1, 9, none⟩) 4 4)], []⟩ trivial ?_
  refine XD.two (i := 14) (j := 19) (li := (lb 27 16252927)) (lj := (lb 27 16760831)) (oA B133 (pa 14) 14) (oA B133 (pa 14) 19) (by kernel_rfl) (by kernel_rfl) (by kernel_rfl) (by kernel_rfl) (by kernel_rfl) ?_ ?_
  ·
   refine Cg 163 [N1 h.x4] 620 (twoI_ok h.x4 (by omega) _) ?_
   rintro v6003 G6003 rows6003 hG6003 ⟨A6003, rfl, rfl⟩
   replace hr1 := hr1.mono hG6003.le
   refine X.asR (R' := [(620, RR 5 1 A6003 2 2 [N8 (h.x4 / 256), N8 (h.x4 % 256)]), (8, RR 5 1 A1203 2 2 [N8 69, N8 h.x0]), (612, RR 5 1 A2803 2 2 [N8 (n / 256), N8 (n % 256)]), (616, RR 5 1 A4403 2 2 [N8 (h.x3 / 256), N8 (h.x3 % 256)])]) rfl ?_
   refine X.back ⟨trivial, (hG11607.trans hG6003).le, rfl, ?_⟩
   refine Dn ⟨32, [(4, VL none 0 0), (8, VL A1203 2 2), (12, VL A2803 2 2), (16, VL A4403 2 2), (20, VL A6003 2 2), (22, I8 h.x1), (24, I8 h.x2), (27, VL (some ⟨g1, 5, none⟩) 4 4), (29, VL (some ⟨g1, 9, none⟩) 4 4)], []⟩ trivial ?_
   refine XD.rows [8, 612, 616, 620] (R' := [(8, RR 5 1 A1203 2 2 [N8 69, N8 h.x0]), (612, RR 5 1 A2803 2 2 [N8 (n / 256), N8 (n % 256)]), (616, RR 5 1 A4403 2 2 [N8 (h.x3 / 256), N8 (h.x3 % 256)]), (620, RR 5 1 A6003 2 2 [N8 (h.x4 / 256), N8 (h.x4 % 256)])]) rfl rfl ?_
   exact hL2_16252927 (A1203, A2803, A4403, A6003) _ (hG11607.trans hG6003)
  ·
   refine Lt 25 5 1 4 [N8 h.x1, N8 h.x2, N8 0, N8 0] ?_
   intro A8003
   refine X.back ⟨trivial, hG11607.le, rfl, ?_⟩
   refine Dn ⟨32, [(4, VL none 0 0), (8, VL A1203 2 2), (12, VL A2803 2 2), (16, VL A4403 2 2), (17, .fn 163 []), (19, I1 h.x4), (25, VL A8003 4 4), (27, VL (some ⟨g1, 5, none⟩) 4 4), (29, VL (some ⟨g1, 9, none⟩) 4 4)], []⟩ trivial ?_
   refine XD.rows [8, 25, 612, 616] (R' := [(8, RR 5 1 A1203 2 2 [N8 69, N8 h.x0]), (25, RR 5 1 A8003 4 4 [N8 h.x1, N8 h.x2, N8 0, N8 0]), (612, RR 5 1 A2803 2 2 [N8 (n / 256), N8 (n % 256)]), (616, RR 5 1 A4403 2 2 [N8 (h.x3 / 256), N8 (h.x3 % 256)])]) rfl rfl ?_
   exact hL2_16760831 (A1203, A2803, A4403, A8003) _ hG11607
 refine XD.joinA (α := Option Addr × Option Addr × Option Addr) (fun x_ => ⟨32, [(4, VL none 0 0), (8, VL x_.1 2 2), (12, VL x_.2.1 2 2), (13, .fn 163 []), (15, I1 h.x3), (17, .fn 163 []), (19, I1 h.x4), (25, VL x_.2.2 4 4), (27, VL (some ⟨g1, 5, none⟩) 4 4), (29, VL (some ⟨g1, 9, none⟩) 4 4)], []⟩) (fun x_ => [(8, RR 5 1 x_.1 2 2 [N8 69, N8 h.x0]), (25, RR 5 1 x_.2.2 4 4 [N8 h.x1, N8 h.x2, N8 0, N8 0]), (612, RR 5 1 x_.2.1 2 2 [N8 (n / 256), N8 (n % 256)])]) (lb 27 16759807) 5 ?_ fun hL2_16759807 => ?_
 ·
  rintro ⟨A1203, A2803, A8003⟩ G11608 hG11608
  replace hr1 := hr1.mono hG11608.le
  refine Dn ⟨32, [(4, VL none 0 0), (8, VL A1203 2 2), (12, VL A2803 2 2), (13, .fn 163 []), (15, I1 h.x3), (17, .fn 163 []), (19, I1 h.x4), (25, VL A8003 4 4), (27, VL (some ⟨g1, 5, none⟩) 4 4), (29, VL (some ⟨g1, 9, none⟩) 4 4)], []⟩ trivial ?_
  refine XD.rows [8, 25, 612] (R' := [(8, RR 5 1 A1203 2 2 [N8 69, N8 h.x0]), (25, RR 5 1 A8003 4 4 [N8 h.x1, N8 h.x2, N8 0, N8 0]), (612, RR 5 1 A2803 2 2 [N8 (n / 256), N8 (n % 256)])]) rfl rfl ?_
  refine Dn ⟨32, [(4, VL none 0 0), (8, VL A1203 2 2), (12, VL A2803 2 2), (13, .fn 163 []), (15, I1 h.x3), (17, .fn 163 []), (19, I1 h.x4), (25, VL A8003 4 4), (27, VL (some ⟨g1, 5, none⟩) 4 4), (29, VL (some ⟨g1, 9, none⟩) 4 4)], []⟩ trivial ?_
  refine Do 10 27 16760831 B133 14 ?_
  refine Cg 163 [N1 h.x3] 616 (twoI_ok h.x3 (by omega) _) ?_
  rintro v4403 G4403 rows4403 hG4403 ⟨A4403, rfl, rfl⟩
  replace hr1 := hr1.mono hG4403.le
  refine X.asR (R' := [(616, RR 5 1 A4403 2 2 [N8 (h.x3 / 256), N8 (h.x3 % 256)]), (8, RR 5 1 A1203 2 2 [N8 69, N8 h.x0]), (25, RR 5 1 A8003 4 4 [N8 h.x1, N8 h.x2, N8 0, N8 0]), (612, RR 5 1 A2803 2 2 [N8 (n / 256), N8 (n % 256)])]) rfl ?_
  refine X.back ⟨trivial, (hG11608.trans hG4403).le, rfl, ?_⟩
  refine Dn ⟨32, [(4, VL none 0 0), (8, VL A1203 2 2), (12, VL A2803 2 2), (16, VL A4403 2 2), (17, .fn 163 []), (19, I1 h.x4), (25, VL A8003 4 4), (27, VL (some ⟨g1, 5, none⟩) 4 4), (29, VL (some ⟨g1, 9, none⟩) 4 4)], []⟩ trivial ?_
  refine XD.rows [8, 25, 612, 616] (R' := [(8, RR 5 1 A1203 2 2 [N8 69, N8 h.x0]), (25, RR 5 1 A8003 4 4 [N8 h.x1, N8 h.x2, N8 0, N8 0]), (612, RR 5 1 A2803 2 2 [N8 (n / 256), N8 (n % 256)]), (616, RR 5 1 A4403 2 2 [N8 (h.x3 / 256), N8 (h.x3 % 256)])]) rfl rfl ?_
  exact hL2_16760831 (A1203, A2803, A4403, A8003) _ (hG11608.trans hG4403)
 refine XD.joinA (α := Option Addr × Option Addr × Option Addr) (fun x_ => ⟨32, [(4, VL none 0 0), (7, I8 h.x0), (12, VL x_.1 2 2), (16, VL x_.2.1 2 2), (17, .fn 163 []), (19, I1 h.x4), (25, VL x_.2.2 4 4), (27, VL (some ⟨g1, 5, none⟩) 4 4), (29, VL (some ⟨g1, 9, none⟩) 4 4)], []⟩) (fun x_ => [(25, RR 5 1 x_.2.2 4 4 [N8 h.x1, N8 h.x2, N8 0, N8 0]), (612, RR 5 1 x_.1 2 2 [N8 (n / 256), N8 (n % 256)]), (616, RR 5 1 x_.2.1 2 2 [N8 (h.x3 / 256), N8 (h.x3 % 256)])]) (lb 27 16760827) 5 ?_ fun hL2_16760827 => ?_
 ·
  rintro ⟨A2803, A4403, A8003⟩ G11609 hG11609
  replace hr1 := hr1.mono hG11609.le
  refine Dn ⟨32, [(4, VL none 0 0), (7, I8 h.x0), (12, VL A2803 2 2), (16, VL A4403 2 2), (17, .fn 163 []), (19, I1 h.x4), (25, VL A8003 4 4), (27, VL (some ⟨g1, 5, none⟩) 4 4), (29, VL (some ⟨g1, 9, none⟩) 4 4)], []⟩ trivial ?_
  refine XD.rows [25, 612, 616] (R' := [(25, RR 5 1 A8003 4 4 [N8 h.x1, N8 h.x2, N8 0, N8 0]), (612, RR 5 1 A2803 2 2 [N8 (n / 256), N8 (n % 256)]), (616, RR 5 1 A4403 2 2 [N8 (h.x3 / 256), N8 (h.x3 % 256)])]) rfl rfl ?_
  refine Dn ⟨32, [(4, VL none 0 0), (7, I8 h.x0), (12, VL A2803 2 2), (16, VL A4403 2 2), (17, .fn 163 []), (19, I1 h.x4), (25, VL A8003 4 4), (27, VL (some ⟨g1, 5, none⟩) 4 4), (29, VL (some ⟨g1, 9, none⟩) 4 4)], []⟩ trivial ?_
  refine XD.two (i := 2) (j := 14) (li := (lb 27 16760831)) (lj := (lb 27 16777211)) (oA B133 (pa 14) 2) (oA B133 (pa 14) 14) (by kernel_rfl) (by kernel_rfl) (by kernel_rfl) (by kernel_rfl) (by kernel_rfl) ?_ ?_
  ·
   refine Lt 8 5 1 2 [N8 69, N8 h.x0] ?_
   intro A1203
   refine X.back ⟨trivial, hG11609.le, rfl, ?_⟩
   refine Dn ⟨32, [(4, VL none 0 0), (8, VL A1203 2 2), (12, VL A2803 2 2), (16, VL A4403 2 2), (17, .fn 163 []), (19, I1 h.x4), (25, VL A8003 4 4), (27, VL (some ⟨g1, 5, none⟩) 4 4), (29, VL (some ⟨g1, 9, none⟩) 4 4)], []⟩ trivial ?_
   refine XD.rows [8, 25, 612, 616] (R' := [(8, RR 5 1 A1203 2 2 [N8 69, N8 h.x0]), (25, RR 5 1 A8003 4 4 [N8 h.x1, N8 h.x2, N8 0, N8 0]), (612, RR 5 1 A2803 2 2 [N8 (n / 256), N8 (n % 256)]), (616, RR 5 1 A4403 2 2 [N8 (h.x3 / 256), N8 (h.x3 % 256)])]) rfl rfl ?_
   exact hL2_16760831 (A1203, A2803, A4403, A8003) _ hG11609
  ·
   refine Cg 163 [N1 h.x4] 620 (twoI_ok h.x4 (by omega) _) ?_
   rintro v6003 G6003 rows6003 hG6003 ⟨A6003, rfl, rfl⟩
   replace hr1 := hr1.mono hG6003.le
   refine X.asR (R' := [(620, RR 5 1 A6003 2 2 [N8 (h.x4 / 256), N8 (h.x4 % 256)]), (25, RR 5 1 A8003 4 4 [N8 h.x1, N8 h.x2, N8 0, N8 0]), (612, RR 5 1 A2803 2 2 [N8 (n / 256), N8 (n % 256)]), (616, RR 5 1 A4403 2 2 [N8 (h.x3 / 256), N8 (h.x3 % 256)])]) rfl ?_
   refine X.back ⟨trivial, (hG11609.trans hG6003).le, rfl, ?_⟩
   refine Dn ⟨32, [(4, VL none 0 0), (7, I8 h.x0), (12, VL A2803 2 2), (16, VL A4403 2 2), (20, VL A6003 2 2), (25, VL A8003 4 4), (27, VL (some ⟨g1, 5, none⟩) 4 4), (29, VL (some ⟨g1, 9, none⟩) 4 4)], []⟩ trivial ?_
   refine XD.rows [25, 612, 616, 620] (R' := [(25, RR 5 1 A8003 4 4 [N8 h.x1, N8 h.x2, N8 0, N8 0]), (612, RR 5 1 A2803 2 2 [N8 (n / 256), N8 (n % 256)]), (616, RR 5 1 A4403 2 2 [N8 (h.x3 / 256), N8 (h.x3 % 256)]), (620, RR 5 1 A6003 2 2 [N8 (h.x4 / 256), N8 (h.x4 % 256)])]) rfl rfl ?_
   exact hL2_16777211 (A2803, A4403, A6003, A8003) _ (hG11609.trans hG6003)
 refine XD.joinA (α := Option Addr × Option Addr) (fun x_ => ⟨32, [(4, VL none 0 0), (8, VL x_.1 2 2), (12, VL x_.2 2 2), (13, .fn 163 []), (15, I1 h.x3), (17, .fn 163 []), (19, I1 h.x4), (22, I8 h.x1), (24, I8 h.x2), (27, VL (some ⟨g1, 5, none⟩) 4 4), (29, VL (some ⟨g1, 9, none⟩) 4 4)], []⟩) (fun x_ => [(8, RR 5 1 x_.1 2 2 [N8 69, N8 h.x0]), (612, RR 5 1 x_.2 2 2 [N8 (n / 256), N8 (n % 256)])]) (lb 27 16235519) 6 ?_ fun hL2_16235519 => ?_
 ·
  rintro ⟨A1203, A2803⟩ G11610 hG11610
  replace hr1 := hr1.mono hG11610.le
  refine Dn ⟨32, [(4, VL none 0 0), (8, VL A1203 2 2), (12, VL A2803 2 2), (13, .fn 163 []), (15, I1 h.x3), (17, .fn 163 []), (19, I1 h.x4), (22, I8 h.x1), (24, I8 h.x2), (27, VL (some ⟨g1, 5, none⟩) 4 4), (29, VL (some ⟨g1, 9, none⟩) 4 4)], []⟩ trivial ?_
  refine XD.rows [8, 612] (R' := [(8, RR 5 1 A1203 2 2 [N8 69, N8 h.x0]), (612, RR 5 1 A2803 2 2 [N8 (n / 256), N8 (n % 256)])]) rfl rfl ?_
  refine Dn ⟨32, [(4, VL none 0 0), (8, VL A1203 2 2), (12, VL A2803 2 2), (13, .fn 163 []), (15, I1 h.x3), (17, .fn 163 []), (19, I1 h.x4), (22, I8 h.x1), (24, I8 h.x2), (27, VL (some ⟨g1, 5, none⟩) 4 4), (29, VL (some ⟨g1, 9, none⟩) 4 4)], []⟩ trivial ?_
  refine XD.two (i := 10) (j := 19) (li := (lb 27 16236543)) (lj := (lb 27 16759807)) (oA B133 (pa 14) 10) (oA B133 (pa 14) 19) (by kernel_rfl) (by kernel_rfl) (by kernel_rfl) (by kernel_rfl) (by kernel_rfl) ?_ ?_
  ·
   refine Cg 163 [N1 h.x3] 616 (twoI_ok h.x3 (by omega) _) ?_
   rintro v4403 G4403 rows4403 hG4403 ⟨A4403, rfl, rfl⟩
   replace hr1 := hr1.mono hG4403.le
   refine X.asR (R' := [(616, RR 5 1 A4403 2 2 [N8 (h.x3 / 256), N8 (h.x3 % 256)]), (8, RR 5 1 A1203 2 2 [N8 69, N8 h.x0]), (612, RR 5 1 A2803 2 2 [N8 (n / 256), N8 (n % 256)])]) rfl ?_
   refine X.back ⟨trivial, (hG11610.trans hG4403).le, rfl, ?_⟩
   refine Dn ⟨32, [(4, VL none 0 0), (8, VL A1203 2 2), (12, VL A2803 2 2), (16, VL A4403 2 2), (17, .fn 163 []), (19, I1 h.x4), (22, I8 h.x1), (24, I8 h.x2), (27, VL (some ⟨g1, 5, none⟩) 4 4), (29, VL (some ⟨g1, 9, none⟩) 4 4)], []⟩ trivial ?_
   refine XD.rows [8, 612, 616] (R' := [(8, RR 5 1 A1203 2 2 [N8 69, N8 h.x0]), (612, RR 5 1 A2803 2 2 [N8 (n / 256), N8 (n % 256)]), (616, RR 5 1 A4403 2 2 [N8 (h.x3 / 256), N8 (h.x3 % 256)])]) rfl rfl ?_
   exact hL2_16236543 (A1203, A2803, A4403) _ (hG11610.trans hG4403)
  ·
   refine Lt 25 5 1 4 [N8 h.x1, N8 h.x2, N8 0, N8 0] ?_
   intro A8003
   refine X.back ⟨trivial, hG11610.le, rfl, ?_⟩
   refine Dn ⟨32, [(4, VL none 0 0), (8, VL A1203 2 2), (12, VL A2803 2 2), (13, .fn 163 []), (15, I1 h.x3), (17, .fn 163 []), (19, I1 h.x4), (25, VL A8003 4 4), (27, VL (some ⟨g1, 5, none⟩) 4 4), (29, VL (some ⟨g1, 9, none⟩) 4 4)], []⟩ trivial ?_
   refine XD.rows [8, 25, 612] (R' := [(8, RR 5 1 A1203 2 2 [N8 69, N8 h.x0]), (25, RR 5 1 A8003 4 4 [N8 h.x1, N8 h.x2, N8 0, N8 0]), (612, RR 5 1 A2803 2 2 [N8 (n / 256), N8 (n % 256)])]) rfl rfl ?_
   exact hL2_16759807 (A1203, A2803, A8003) _ hG11610
 refine XD.joinA (α := Option Addr × Option Addr) (fun x_ => ⟨32, [(4, VL none 0 0), (8, VL x_.1 2 2), (9, .fn 163 []), (11, I1 n), (13, .fn 163 []), (15, I1 h.x3), (17, .fn 163 []), (19, I1 h.x4), (25, VL x_.2 4 4), (27, VL (some ⟨g1, 5, none⟩) 4 4), (29, VL (some ⟨g1, 9, none⟩) 4 4)], []⟩) (fun x_ => [(8, RR 5 1 x_.1 2 2 [N8 69, N8 h.x0]), (25, RR 5 1 x_.2 4 4 [N8 h.x1, N8 h.x2, N8 0, N8 0])]) (lb 27 16759743) 6 ?_ fun hL2_16759743 => ?_
 ·
  rintro ⟨A1203, A8003⟩ G11611 hG11611
  replace hr1 := hr1.mono hG11611.le
  refine Dn ⟨32, [(4, VL none 0 0), (8, VL A1203 2 2), (9, .fn 163 []), (11, I1 n), (13, .fn 163 []), (15, I1 h.x3), (17, .fn 163 []), (19, I1 h.x4), (25, VL A8003 4 4), (27, VL (some ⟨g1, 5, none⟩) 4 4), (29, VL (some ⟨g1, 9, none⟩) 4 4)], []⟩ trivial ?_
  refine XD.rows [8, 25] (R' := [(8, RR 5 1 A1203 2 2 [N8 69, N8 h.x0]), (25, RR 5 1 A8003 4 4 [N8 h.x1, N8 h.x2, N8 0, N8 0])]) rfl rfl ?_
  refine Dn ⟨32, [(4, VL none 0 0), (8, VL A1203 2 2), (9, .fn 163 []), (11, I1 n), (13, .fn 163 []), (15, I1 h.x3), (17, .fn 163 []), (19, I1 h.x4), (25, VL A8003 4 4), (27, VL (some ⟨g1, 5, none⟩) 4 4), (29, VL (some ⟨g1, 9, none⟩) 4 4)], []⟩ trivial ?_
  refine Do 6 27 16759807 B133 14 ?_
  refine Cg 163 [N1 n] 612 (twoI_ok n (by omega) _) ?_
  rintro v2803 G2803 rows2803 hG2803 ⟨A2803, rfl, rfl⟩
  replace hr1 := hr1.mono hG2803.le
  refine X.asR (R' := [(612, RR 5 1 A2803 2 2 [N8 (n / 256), N8 (n % 256)]), (8, RR 5 1 A1203 2 2 [N8 69, N8 h.x0]), (25, RR 5 1 A8003 4 4 [N8 h.x1, N8 h.x2, N8 0, N8 0])]) rfl ?_
  refine X.back ⟨trivial, (hG11611.trans hG2803).le, rfl, ?_⟩
  refine Dn ⟨32, [(4, VL none 0 0), (8, VL A1203 2 2), (12, VL A2803 2 2), (13, .fn 163 []), (15, I1 h.x3), (17, .fn 163 []), (19, I1 h.x4), (25, VL A8003 4 4), (27, VL (some ⟨g1, 5, none⟩) 4 4), (29, VL (some ⟨g1, 9, none⟩) 4 4)], []⟩ trivial ?_
  refine XD.rows [8, 25, 612] (R' := [(8, RR 5 1 A1203 2 2 [N8 69, N8 h.x0]), (25, RR 5 1 A8003 4 4 [N8 h.x1, N8 h.x2, N8 0, N8 0]), (612, RR 5 1 A2803 2 2 [N8 (n / 256), N8 (n % 256)])]) rfl rfl ?_
  exact hL2_16759807 (A1203, A2803, A8003) _ (hG11611.trans hG2803)
 refine XD.joinA (α := Option Addr × Option Addr) (fun x_ => ⟨32, [(4, VL none 0 0), (7, I8 h.x0), (12, VL x_.1 2 2), (13, .fn 163 []), (15, I1 h.x3), (17, .fn 163 []), (19, I1 h.x4), (25, VL x_.2 4 4), (27, VL (some ⟨g1, 5, none⟩) 4 4), (29, VL (some ⟨g1, 9, none⟩) 4 4)], []⟩) (fun x_ => [(25, RR 5 1 x_.2 4 4 [N8 h.x1, N8 h.x2, N8 0, N8 0]), (612, RR 5 1 x_.1 2 2 [N8 (n / 256), N8 (n % 256)])]) (lb 27 16759803) 6 ?_ fun hL2_16759803 => ?_
 ·
  rintro ⟨A2803, A8003⟩ G11612 hG11612
  replace hr1 := hr1.mono hG11612.le
  refine Dn ⟨32, [(4, VL none 0 0), (7, I8 h.x0), (12, VL A2803 2 2), (13, .fn 163 []), (15, I1 h.x3), (17, .fn 163 []), (19, I1 h.x4), (25, VL A8003 4 4), (27, VL (some ⟨g1, 5, none⟩) 4 4), (29, VL (some ⟨g1, 9, none⟩) 4 4)], []⟩ trivial ?_
  refine XD.rows [25, 612] (R' := [(25, RR 5 1 A8003 4 4 [N8 h.x1, N8 h.x2, N8 0, N8 0]), (612, RR 5 1 A2803 2 2 [N8 (n / 256), N8 (n % 256)])]) rfl rfl ?_
  refine Dn ⟨32, [(4, VL none 0 0), (7, I8 h.x0), (12, VL A2803 2 2), (13, .fn 163 []), (15, I1 h.x3), (17, .fn 163 []), (19, I1 h.x4), (25, VL A8003 4 4), (27, VL (some ⟨g1, 5, none⟩) 4 4), (29, VL (some ⟨g1, 9, none⟩) 4 4)], []⟩ trivial ?_
  refine XD.two (i := 2) (j := 10) (li := (lb 27 16759807)) (lj := (lb 27 16760827)) (oA B133 (pa 14) 2) (oA B133 (pa 14) 10) (by kernel_rfl) (by kernel_rfl) (by kernel_rfl) (by kernel_rfl) (by kernel_rfl) ?_ ?_
  ·
   refine Lt 8 5 1 2 [N8 69, N8 h.x0] ?_
   intro A1203
   refine X.back ⟨trivial, hG11612.le, rfl, ?_⟩
   refine Dn ⟨32, [(4, VL none 0 0), (8, VL A1203 2 2), (12, VL A2803 2 2), (13, .fn 163 []), (15, I1 h.x3), (17, .fn 163 []), (19, I1 h.x4), (25, VL A8003 4 4), (27, VL (some ⟨g1, 5, none⟩) 4 4), (29, VL (some ⟨g1, 9, none⟩) 4 4)], []⟩ trivial ?_
   refine XD.rows [8, 25, 612] (R' := [(8, RR 5 1 A1203 2 2 [N8 69, N8 h.x0]), (25, RR 5 1 A8003 4 4 [N8 h.x1, N8 h.x2, N8 0, N8 0]), (612, RR 5 1 A2803 2 2 [N8 (n / 256), N8 (n % 256)])]) rfl rfl ?_
   exact hL2_16759807 (A1203, A2803, A8003) _ hG11612
  ·
   refine Cg 163 [N1 h.x3] 616 (twoI_ok h.x3 (by omega) _) ?_
   rintro v4403 G4403 rows4403 hG4403 ⟨A4403, rfl, rfl⟩
   replace hr1 := hr1.mono hG4403.le
   refine X.asR (R' := [(616, RR 5 1 A4403 2 2 [N8 (h.x3 / 256), N8 (h.x3 % 256)]), (25, RR 5 1 A8003 4 4 [N8 h.x1, N8 h.x2, N8 0, N8 0]), (612, RR 5 1 A2803 2 2 [N8 (n / 256), N8 (n % 256)])]) rfl ?_
   refine X.back ⟨trivial, (hG11612.trans hG4403).le, rfl, ?_⟩
   refine Dn ⟨32, [(4, VL none 0 0), (7, I8 h.x0), (12, VL A2803 2 2), (16, VL A4403 2 2), (17, .fn 163 []), (19, I1 h.x4), (25, VL A8003 4 4), (27, VL (some ⟨g1, 5, none⟩) 4 4), (29, VL (some ⟨g1, 9, none⟩) 4 4)], []⟩ trivial ?_
   refine XD.rows [25, 612, 616] (R' := [(25, RR 5 1 A8003 4 4 [N8 h.x1, N8 h.x2, N8 0, N8 0]), (612, RR 5 1 A2803 2 2 [N8 (n / 256), N8 (n % 256)]), (616, RR 5 1 A4403 2 2 [N8 (h.x3 / 256), N8 (h.x3 % 256)])]) rfl rfl ?_
   exact hL2_16760827 (A2803, A4403, A8003) _ (hG11612.trans hG4403)
 refine Dn ⟨32, [(4, VL none 0 0), (7, I8 h.x0), (9, .fn 163 []), (11, I1 n), (13, .fn 163 []), (15, I1 h.x3), (17, .fn 163 []), (19, I1 h.x4), (22, I8 h.x1), (24, I8 h.x2), (27, VL (some ⟨g1, 5, none⟩) 4 4), (29, VL (some ⟨g1, 9, none⟩) 4 4)], []⟩ trivial ?_
 refine XD.three (i := 2) (j := 6) (m := 19) (li := (lb 27 16235455)) (lj := (lb 27 16235515)) (lm := (lb 27 16759739)) (oA B133 (pa 14) 2) (oA B133 (pa 14) 6) (oA B133 (pa 14) 19) (by kernel_rfl) (by kernel_rfl) (by kernel_rfl) (by kernel_rfl) (by kernel_rfl) (by kernel_rfl) (by kernel_rfl) ?_ ?_ ?_
 ·
  refine Lt 8 5 1 2 [N8 69, N8 h.x0] ?_
  intro A1203
  refine X.back ⟨trivial, Le.refl _, rfl, ?_⟩
  refine Dn ⟨32, [(4, VL none 0 0), (8, VL A1203 2 2), (9, .fn 163 []), (11, I1 n), (13, .fn 163 []), (15, I1 h.x3), (17, .fn 163 []), (19, I1 h.x4), (22, I8 h.x1), (24, I8 h.x2), (27, VL (some ⟨g1, 5, none⟩) 4 4), (29, VL (some ⟨g1, 9, none⟩) 4 4)], []⟩ trivial ?_
  refine XD.two (i := 6) (j := 19) (li := (lb 27 16235519)) (lj := (lb 27 16759743)) (oA B133 (pa 14) 6) (oA B133 (pa 14) 19) (by kernel_rfl) (by kernel_rfl) (by kernel_rfl) (by kernel_rfl) (by kernel_rfl) ?_ ?_
  ·
   refine Cg 163 [N1 n] 612 (twoI_ok n (by omega) _) ?_
   rintro v2803 G2803 rows2803 hG2803 ⟨A2803, rfl, rfl⟩
   replace hr1 := hr1.mono hG2803.le
   refine X.asR (R' := [(612, RR 5 1 A2803 2 2 [N8 (n / 256), N8 (n % 256)]), (8, RR 5 1 A1203 2 2 [N8 69, N8 h.x0])]) rfl ?_
   refine X.back ⟨trivial, hG2803.le, rfl, ?_⟩
   refine Dn ⟨32, [(4, VL none 0 0), (8, VL A1203 2 2), (12, VL A2803 2 2), (13, .fn 163 []), (15, I1 h.x3), (17, .fn 163 []), (19, I1 h.x4), (22, I8 h.x1), (24, I8 h.x2), (27, VL (some ⟨g1, 5, none⟩) 4 4), (29, VL (some ⟨g1, 9, none⟩) 4 4)], []⟩ trivial ?_
   refine XD.rows [8, 612] (R' := [(8, RR 5 1 A1203 2 2 [N8 69, N8 h.x0]), (612, RR 5 1 A2803 2 2 [N8 (n / 256), N8 (n % 256)])]) rfl rfl ?_
   exact hL2_16235519 (A1203, A2803) _ hG2803
  ·
   refine Lt 25 5 1 4 [N8 h.x1, N8 h.x2, N8 0, N8 0] ?_
   intro A8003
   refine X.back ⟨trivial, Le.refl _, rfl, ?_⟩
   refine Dn ⟨32, [(4, VL none 0 0), (8, VL A1203 2 2), (9, .fn 163 []), (11, I1 n), (13, .fn 163 []), (15, I1 h.x3), (17, .fn 163 []), (19, I1 h.x4), (25, VL A8003 4 4), (27, VL (some ⟨g1, 5, none⟩) 4 4), (29, VL (some ⟨g1, 9, none⟩) 4 4)], []⟩ trivial ?_
   refine XD.rows [8, 25] (R' := [(8, RR 5 1 A1203 2 2 [N8 69, N8 h.x0]), (25, RR 5 1 A8003 4 4 [N8 h.x1, N8 h.x2, N8 0, N8 0])]) rfl rfl ?_
   exact hL2_16759743 (A1203, A8003) _ (Ge.refl _ _)
 ·
  refine Cg 163 [N1 n] 612 (twoI_ok n (by omega) _) ?_
  rintro v2803 G2803 rows2803 hG2803 ⟨A2803, rfl, rfl⟩
  replace hr1 := hr1.mono hG2803.le
  refine X.asR (R' := [(612, RR 5 1 A2803 2 2 [N8 (n / 256), N8 (n % 256)])]) rfl ?_
  refine X.back ⟨trivial, hG2803.le, rfl, ?_⟩
  refine Dn ⟨32, [(4, VL none 0 0), (7, I8 h.x0), (12, VL A2803 2 2), (13, .fn 163 []), (15, I1 h.x3), (17, .fn 163 []), (19, I1 h.x4), (22, I8 h.x1), (24, I8 h.x2), (27, VL (some ⟨g1, 5, none⟩) 4 4), (29, VL (some ⟨g1, 9, none⟩) 4 4)], []⟩ trivial ?_
  refine XD.three (i := 2) (j := 10) (m := 19) (li := (lb 27 16235519)) (lj := (lb 27 16236539)) (lm := (lb 27 16759803)) (oA B133 (pa 14) 2) (oA B133 (pa 14) 10) (oA B133 (pa 14) 19) (by kernel_rfl) (by kernel_rfl) (by kernel_rfl) (by kernel_rfl) (by kernel_rfl) (by kernel_rfl) (by kernel_rfl) ?_ ?_ ?_
  ·
   refine Lt 8 5 1 2 [N8 69, N8 h.x0] ?_
   intro A1203
   refine X.back ⟨trivial, hG2803.le, rfl, ?_⟩
   refine Dn ⟨32, [(4, VL none 0 0), (8, VL A1203 2 2), (12, VL A2803 2 2), (13, .fn 163 []), (15, I1 h.x3), (17, .fn 163 []), (19, I1 h.x4), (22, I8 h.x1), (24, I8 h.x2), (27, VL (some ⟨g1, 5, none⟩) 4 4), (29, VL (some ⟨g1, 9, none⟩) 4 4)], []⟩ trivial ?_
   refine XD.rows [8, 612] (R' := [(8, RR 5 1 A1203 2 2 [N8 69, N8 h.x0]), (612, RR 5 1 A2803 2 2 [N8 (n / 256), N8 (n % 256)])]) rfl rfl ?_
   exact hL2_16235519 (A1203, A2803) _ hG2803
  ·
   refine Cg 163 [N1 h.x3] 616 (twoI_ok h.x3 (by omega) _) ?_
   rintro v4403 G4403 rows4403 hG4403 ⟨A4403, rfl, rfl⟩
   replace hr1 := hr1.mono hG4403.le
   refine X.asR (R' := [(616, RR 5 1 A4403 2 2 [N8 (h.x3 / 256), N8 (h.x3 % 256)]), (612, RR 5 1 A2803 2 2 [N8 (n / 256), N8 (n % 256)])]) rfl ?_
   refine X.back ⟨trivial, (hG2803.trans hG4403).le, rfl, ?_⟩
   refine Dn ⟨32, [(4, VL none 0 0), (7, I8 h.x0), (12, VL A2803 2 2), (16, VL A4403 2 2), (17, .fn 163 []), (19, I1 h.x4), (22, I8 h.x1), (24, I8 h.x2), (27, VL (some ⟨g1, 5, none⟩) 4 4), (29, VL (some ⟨g1, 9, none⟩) 4 4)], []⟩ trivial ?_
   refine XD.three (i := 2) (j := 14) (m := 19) (li := (lb 27 16236543)) (lj := (lb 27 16252923)) (lm := (lb 27 16760827)) (oA B133 (pa 14) 2) (oA B133 (pa 14) 14) (oA B133 (pa 14) 19) (by kernel_rfl) (by kernel_rfl) (by kernel_rfl) (by kernel_rfl) (by kernel_rfl) (by kernel_rfl) (by kernel_rfl) ?_ ?_ ?_
   ·
    refine Lt 8 5 1 2 [N8 69, N8 h.x0] ?_
    intro A1203
    refine X.back ⟨trivial, (hG2803.trans hG4403).le, rfl, ?_⟩
    refine Dn ⟨32, [(4, VL none 0 0), (8, VL A1203 2 2), (12, VL A2803 2 2), (16, VL A4403 2 2), (17, .fn 163 []), (19, I1 h.x4), (22, I8 h.x1), (24, I8 h.x2), (27, VL (some ⟨g1, 5, none⟩) 4 4), (29, VL (some ⟨g1, 9, none⟩) 4 4)], []⟩ trivial ?_
    refine XD.rows [8, 612, 616] (R' := [(8, RR 5 1 A1203 2 2 [N8 69, N8 h.x0]), (612, RR 5 1 A2803 2 2 [N8 (n / 256), N8 (n % 256)]), (616, RR 5 1 A4403 2 2 [N8 (h.x3 / 256), N8 (h.x3 % 256)])]) rfl rfl ?_
    exact hL2_16236543 (A1203, A2803, A4403) _ (hG2803.trans hG4403)
   ·
    refine Cg 163 [N1 h.x4] 620 (twoI_ok h.x4 (by omega) _) ?_
    rintro v6003 G6003 rows6003 hG6003 ⟨A6003, rfl, rfl⟩
    replace hr1 := hr1.mono hG6003.le
    refine X.asR (R' := [(620, RR 5 1 A6003 2 2 [N8 (h.x4 / 256), N8 (h.x4 % 256)]), (616, RR 5 1 A4403 2 2 [N8 (h.x3 / 256), N8 (h.x3 % 256)]), (612, RR 5 1 A2803 2 2 [N8 (n / 256), N8 (n % 256)])]) rfl ?_
    refine X.back ⟨trivial, ((hG2803.trans hG4403).trans hG6003).le, rfl, ?_⟩
    refine Dn ⟨32, [(4, VL none 0 0), (7, I8 h.x0), (12, VL A2803 2 2), (16, VL A4403 2 2), (20, VL A6003 2 2), (22, I8 h.x1), (24, I8 h.x2), (27, VL (some ⟨g1, 5, none⟩) 4 4), (29, VL (some ⟨g1, 9, none⟩) 4 4)], []⟩ trivial ?_
    refine XD.two (i := 2) (j := 19) (li := (lb 27 16252927)) (lj := (lb 27 16777211)) (oA B133 (pa 14) 2) (oA B133 (pa 14) 19) (by kernel_rfl) (by kernel_rfl) (by kernel_rfl) (by kernel_rfl) (by kernel_rfl) ?_ ?_
    ·
     refine Lt 8 5 1 2 [N8 69, N8 h.x0] ?_
     intro A1203
     refine X.back ⟨trivial, ((hG2803.trans hG4403).trans hG6003).le, rfl, ?_⟩
     refine Dn ⟨32, [(4, VL none 0 0), (8, VL A1203 2 2), (12, VL A2803 2 2), (16, VL A4403 2 2), (20, VL A6003 2 2), (22, I8 h.x1), (24, I8 h.x2), (27, VL (some ⟨g1, 5, none⟩) 4 4), (29, VL (some ⟨g1, 9, none⟩) 4 4)], []⟩ trivial ?_
     refine XD.rows [8, 612, 616, 620] (R' := [(8, RR 5 1 A1203 2 2 [N8 69, N8 h.x0]), (612, RR 5 1 A2803 2 2 [N8 (n / 256), N8 (n % 256)]), (616, RR 5 1 A4403 2 2 [N8 (h.x3 / 256), N8 (h.x3 % 256)]), (620, RR 5 1 A6003 2 2 [N8 (h.x4 / 256), N8 (h.x4 % 256)])]) rfl rfl ?_
     exact hL2_16252927 (A1203, A2803, A4403, A6003) _ ((hG2803.trans hG4403).trans hG6003)
    ·
     refine Lt 25 5 1 4 [N8 h.x1, N8 h.x2, N8 0, N8 0] ?_
     intro A8003
     refine X.back ⟨trivial, ((hG2803.trans hG4403).trans hG6003).le, rfl, ?_⟩
     refine Dn ⟨32, [(4, VL none 0 0), (7, I8 h.x0), (12, VL A2803 2 2), (16, VL A4403 2 2), (20, VL A6003 2 2), (25, VL A8003 4 4), (27, VL (some ⟨g1, 5, none⟩) 4 4), (29, VL (some ⟨g1, 9, none⟩) 4 4)], []⟩ trivial ?_
     refine XD.rows [25, 612, 616, 620] (R' := [(25, RR 5 1 A8003 4 4 [N8 h.x1, N8 h.x2, N8 0, N8 0]), (612, RR 5 1 A2803 2 2 [N8 (n / 256), N8 (n % 256)]), (616, RR 5 1 A4403 2 2 [N8 (h.x3 / 256), N8 (h.x3 % 256)]), (620, RR 5 1 A6003 2 2 [N8 (h.x4 / 256), N8 (h.x4 % 256)])]) rfl rfl ?_
     exact hL2_16777211 (A2803, A4403, A6003, A8003) _ ((hG2803.trans hG4403).trans hG6003)
   ·
    refine Lt 25 5 1 4 [N8 h.x1, N8 h.x2, N8 0, N8 0] ?_
    intro A8003
    refine X.back ⟨trivial, (hG2803.trans hG4403).le, rfl, ?_⟩
    refine Dn ⟨32, [(4, VL none 0 0), (7, I8 h.x0), (12, VL A2803 2 2), (16, VL A4403 2 2), (17, .fn 163 []), (19, I1 h.x4), (25, VL A8003 4 4), (27, VL (some ⟨g1, 5, none⟩) 4 4), (29, VL (some ⟨g1, 9, none⟩) 4 4)], []⟩ trivial ?_
    refine XD.rows [25, 612, 616] (R' := [(25, RR 5 1 A8003 4 4 [N8 h.x1, N8 h.x2, N8 0, N8 0]), (612, RR 5 1 A2803 2 2 [N8 (n / 256), N8 (n % 256)]), (616, RR 5 1 A4403 2 2 [N8 (h.x3 / 256), N8 (h.x3 % 256)])]) rfl rfl ?_
    exact hL2_16760827 (A2803, A4403, A8003) _ (hG2803.trans hG4403)
  ·
   refine Lt 25 5 1 4 [N8 h.x1, N8 h.x2, N8 0, N8 0] ?_
   intro A8003
   refine X.back ⟨trivial, hG2803.le, rfl, ?_⟩
   refine Dn ⟨32, [(4, VL none 0 0), (7, I8 h.x0), (12, VL A2803 2 2), (13, .fn 163 []), (15, I1 h.x3), (17, .fn 163 []), (19, I1 h.x4), (25, VL A8003 4 4), (27, VL (some ⟨g1, 5, none⟩) 4 4), (29, VL (some ⟨g1, 9, none⟩) 4 4)], []⟩ trivial ?_
   refine XD.rows [25, 612] (R' := [(25, RR 5 1 A8003 4 4 [N8 h.x1, N8 h.x2, N8 0, N8 0]), (612, RR 5 1 A2803 2 2 [N8 (n / 256), N8 (n % 256)])]) rfl rfl ?_
   exact hL2_16759803 (A2803, A8003) _ hG2803
 ·
  refine Lt 25 5 1 4 [N8 h.x1, N8 h.x2, N8 0, N8 0] ?_
  intro A8003
  refine X.back ⟨trivial, Le.refl _, rfl, ?_⟩
  refine Dn ⟨32, [(4, VL none 0 0), (7, I8 h.x0), (9, .fn 163 []), (11, I1 n), (13, .fn 163 []), (15, I1 h.x3), (17, .fn 163 []), (19, I1 h.x4), (25, VL A8003 4 4), (27, VL (some ⟨g1, 5, none⟩) 4 4), (29, VL (some ⟨g1, 9, none⟩) 4 4)], []⟩ trivial ?_
  refine XD.two (i := 2) (j := 6) (li := (lb 27 16759743)) (lj := (lb 27 16759803)) (oA B133 (pa 14) 2) (oA B133 (pa 14) 6) (by kernel_rfl) (by kernel_rfl) (by kernel_rfl) (by kernel_rfl) (by kernel_rfl) ?_ ?_
  ·
   refine Lt 8 5 1 2 [N8 69, N8 h.x0] ?_
   intro A1203
   refine X.back ⟨trivial, Le.refl _, rfl, ?_⟩
   refine Dn ⟨32, [(4, VL none 0 0), (8, VL A1203 2 2), (9, .fn 163 []), (11, I1 n), (13, .fn 163 []), (15, I1 h.x3), (17, .fn 163 []), (19, I1 h.x4), (25, VL A8003 4 4), (27, VL (some ⟨g1, 5, none⟩) 4 4), (29, VL (some ⟨g1, 9, none⟩) 4 4)], []⟩ trivial ?_
   refine XD.rows [8, 25] (R' := [(8, RR 5 1 A1203 2 2 [N8 69, N8 h.x0]), (25, RR 5 1 A8003 4 4 [N8 h.x1, N8 h.x2, N8 0, N8 0])]) rfl rfl ?_
   exact hL2_16759743 (A1203, A8003) _ (Ge.refl _ _)
  ·
   refine Cg 163 [N1 n] 612 (twoI_ok n (by omega) _) ?_
   rintro v2803 G2803 rows2803 hG2803 ⟨A2803, rfl, rfl⟩
   replace hr1 := hr1.mono hG2803.le
   refine X.asR (R' := [(612, RR 5 1 A2803 2 2 [N8 (n / 256), N8 (n % 256)]), (25, RR 5 1 A8003 4 4 [N8 h.x1, N8 h.x2, N8 0, N8 0])]) rfl ?_
   refine X.back ⟨trivial, hG2803.le, rfl, ?_⟩
   refine Dn ⟨32, [(4, VL none 0 0), (7, I8 h.x0), (12, VL A2803 2 2), (13, .fn 163 []), (15, I1 h.x3), (17, .fn 163 []), (19, I1 h.x4), (25, VL A8003 4 4), (27, VL (some ⟨g1, 5, none⟩) 4 4), (29, VL (some ⟨g1, 9, none⟩) 4 4)], []⟩ trivial ?_
   refine XD.rows [25, 612] (R' := [(25, RR 5 1 A8003 4 4 [N8 h.x1, N8 h.x2, N8 0, N8 0]), (612, RR 5 1 A2803 2 2 [N8 (n / 256), N8 (n % 256)])]) rfl rfl ?_
   exact hL2_16759803 (A2803, A8003) _ hG2803
end Go.Proofs.YtjgpdbkkpomhjaaX
