/- leatlaw46.IpEncodes. Walked; printed by a small program of this session. Conditions: none. -/
import Derived.Test.YtjgpdbkkpomhjaaProg
import Derived.KernelRfl
import Derived.Test.YtjgpdbkkpomhjaaYJ3
import Derived.Test.YtjgpdbkkpomhjaaYJ6
import Derived.Test.YtjgpdbkkpomhjaaYJN
namespace Go.Proofs.YtjgpdbkkpomhjaaX
open Go.RowKit
open Go.Proofs.YtjgpdbkkpomhjaaW.PrintLast
set_option linter.unusedVariables false
set_option linter.unusedSimpArgs false
set_option maxRecDepth 100000
/-- leat/leatlaw46.IpEncodes -/
noncomputable def B23 : Code := bodyOf Try.f23
set_option maxHeartbeats 2000000 in
theorem IpEncodes_ok (h : Ih) (d : ByteArray) (A : Option Addr) (c : Nat) (b : List Int) (G : Mem) (hh : h.ok) (hd : d.size ≤ maxLen) (hb : rowAt (D.int .u8) G A b) (hle : b.length ≤ c) (hmx : c ≤ maxLen) : CallsG Try.prog 23 [.agg #[.int .u8 h.x0, .int .u8 h.x1, .int .u8 h.x2, .int .u16 h.x3, .int .u16 h.x4, .int .u8 h.x5, .int .u8 h.x6, .int .u8 h.x7, .int .u8 h.x8, .int .u8 h.x9, .int .u8 h.y0, .int .u8 h.y1, .int .u8 h.y2], .string d, .slice A b.length c] G (fun _ v rows => v = .bool true ∧ rows = []) := by
 simp only [maxLen] at hmx hd
 refine CallsG.enter Try.func23 rfl rfl ?_
 intro w
 refine Rn 7 (Qc B23 6) [Qs B23 7] ⟨79, [(1, VT d), (2, VL A b.length c), (3, .own 3 0), (6, VB false)], [(3, ⟨113, [I8 h.x0, I8 h.x1, I8 h.x2, I1 h.x3, I1 h.x4, I8 h.x5, I8 h.x6, I8 h.x7, I8 h.x8, I8 h.x9, I8 h.y0, I8 h.y1, I8 h.y2]⟩)]⟩ ?_
 have hb_d1 := hb
 refine Og 1 B23 6 12 [] [] [] trivial (by simp) (fun ρ0 => ?_)
 refine Tk 0 12 1 B23 6 (VT d) QOk.ctxG ?_
 refine Tk 1 12 3 B23 6 (VT d) QOk.ctxG ?_
 refine Tk 2 12 7 B23 6 (I6 (d.size : Int)) QOk.ctxG ?_
 refine Tk 3 12 15 B23 6 (I6 (imin (d.size : Int) 300)) QOk.ctxG ?_
 refine Dk 20 .i64 (min (d.size : Int) 300) rfl (by simp only [imin_eq, imax_eq]) ?_
 refine XD.cutStr (i := 4) (l' := (lb 12 31)) (oA B23 (pa 6) 4) (t := 9) (b := d) (x := .tmp 17) (l0 := none) (h := (some (.tmp 20))) (lv := none) (hv := (some (N6 (min (d.size : Int) 300)))) 0 ((min (d.size : Int) 300).toNat) QOk.ctxG (by kernel_rfl) (by kernel_rfl) (by kernel_rfl) (by kernel_rfl) (by kernel_rfl) (by kernel_rfl) (by kernel_rfl) (by kernel_rfl) (rfl) (⟨_, _, rfl, by omega, rfl⟩) (by omega) (by omega) (by kernel_rfl) ?_
 refine Tk 5 12 63 B23 6 (VL A b.length c) QOk.ctxG ?_
 refine Tk 6 12 127 B23 6 (VL A b.length c) QOk.ctxG ?_
 refine Tk 7 12 255 B23 6 (I6 (b.length : Int)) QOk.ctxG ?_
 refine Tk 8 12 511 B23 6 (I6 (imin (b.length : Int) 300)) QOk.ctxG ?_
 refine Dk 25 .i64 (min (b.length : Int) 300) rfl (by simp only [imin_eq, imax_eq]) ?_
 have hlo2 : 0 ≤ (min ((b.length : Nat) : Int) 300).toNat := by omega
 have hhi2 : (min ((b.length : Nat) : Int) 300).toNat ≤ b.length := by omega
 refine XD.cut (i := 9) (l' := (lb 12 1023)) (o := (oA B23 (pa 6) 9)) (t := 22) (e := 5) (sz := 1) (n := b.length) (c := c) (A := A) (x := .tmp 22) (l0 := none) (h := (some (.tmp 25))) (lv := none) (hv := (some (N6 (min (b.length : Int) 300)))) 0 ((min (b.length : Int) 300).toNat) QOk.ctxG (by kernel_rfl) (by kernel_rfl) (by kernel_rfl) (by kernel_rfl) (by kernel_rfl) (by kernel_rfl) (by kernel_rfl) (by kernel_rfl) (by kernel_rfl) (rfl) (⟨_, _, rfl, by omega, rfl⟩) hlo2 (Nat.le_trans hhi2 hle) (by kernel_rfl) ?_
 obtain ⟨A2, hA2⟩ : ∃ A_, cutA A c 0 1 = A_ := ⟨_, rfl⟩
 obtain ⟨ys2, hys2⟩ : ∃ l_, (b.take ((min ((b.length : Nat) : Int) 300).toNat)).drop 0 = l_ := ⟨_, rfl⟩
 have hr2 : rowAt (D.int .u8) G (cutA A c 0 1) ((b.take ((min ((b.length : Nat) : Int) 300).toNat)).drop 0) := rowAt_cut hb hlo2 hhi2 hle
 have hl2 : ((min ((b.length : Nat) : Int) 300).toNat) - 0 = ys2.length := by rw [← hys2, List.length_drop, List.length_take]; omega
 have hc2 : ys2.length ≤ c - 0 := by omega
 have hm2 : c - 0 ≤ maxLen := Nat.le_trans (Nat.sub_le _ _) hmx
 rw [hys2, show cutA A c 0 _ = A2 from hA2] at hr2
 rw [hA2, hl2]
 refine Ts [10, 11] 12 4095 0 2 QOk.ctxG ?_
 refine XD.done (by kernel_rfl) ?_
 refine Rn 5 (Qo B23 14 2) [Qs B23 15] ⟨79, [(1, VT (d.extract 0 ((min (d.size : Int) 300).toNat))), (2, VL A2 ys2.length (c - 0)), (3, .own 3 0), (6, VB false), (28, .v (.agg #[N8 h.x0, N8 h.x1, N8 h.x2, N1 h.x3, N1 h.x4, N8 h.x5, N8 h.x6, N8 h.x7, N8 h.x8, N8 h.x9, N8 h.y0, N8 h.y1, N8 h.y2])), (29, VT (d.extract 0 ((min (d.size : Int) 300).toNat)))], [(3, ⟨113, [I8 h.x0, I8 h.x1, I8 h.x2, I1 h.x3, I1 h.x4, I8 h.x5, I8 h.x6, I8 h.x7, I8 h.x8, I8 h.x9, I8 h.y0, I8 h.y1, I8 h.y2]⟩)]⟩ ?_
 refine Cg 78 [.agg #[N8 h.x0, N8 h.x1, N8 h.x2, N1 h.x3, N1 h.x4, N8 h.x5, N8 h.x6, N8 h.x7, N8 h.x8, N8 h.x9, N8 h.y0, N8 h.y1, N8 h.y2], .string (d.extract 0 ((min (d.size : Int) 300).toNat))] 650 (EncI_ok h (d.extract 0 ((min (d.size : Int) 300).toNat)) _ hh (by simp only [maxLen]; rw [ByteArray.size_extract]; omega)) ?_
 rintro v3 G3 rows3 hG3 ⟨A3, c3, rfl, rfl⟩
 replace hb := hb.mono hG3.le
 replace hr2 := hr2.mono hG3.le
 refine X.asR (R' := [(650, RR 5 1 A3 ((encI h (d.extract 0 ((min (d.size : Int) 300).toNat))).1.length) c3 (((encI h (d.extract 0 ((min (d.size : Int) 300).toNat))).1).map (Value.int .u8)))]) rfl ?_
 refine X.tellR [650] (R' := [(650, RR 5 1 A3 ((encI h (d.extract 0 ((min (d.size : Int) 300).toNat))).1.length) c3 (((encI h (d.extract 0 ((min (d.size : Int) 300).toNat))).1).map (Value.int .u8)))]) rfl ?_
 refine X.capLe (i := 650) (q := (RR 5 1 A3 ((encI h (d.extract 0 ((min (d.size : Int) 300).toNat))).1.length) c3 (((encI h (d.extract 0 ((min (d.size : Int) 300).toNat))).1).map (Value.int .u8)))) (n := (encI h (d.extract 0 ((min (d.size : Int) 300).toNat))).1.length) (c := c3) (A := A3) rfl rfl ?_
 intro hle4 hmx4
 refine X.freezeHd (i := 650) (n := (encI h (d.extract 0 ((min (d.size : Int) 300).toNat))).1.length) (c := c3) (A := A3) (kd := .u8) ((encI h (d.extract 0 ((min (d.size : Int) 300).toNat))).1) rfl rfl (fun x_ hx_ => by have h_ := encI_bytes hh _ x_ hx_; simp only [IntKind.lo, IntKind.hi]; omega) (by kernel_rfl) (fun _ h => h) ?_
 intro G4 hG4 hr4
 replace hb := hb.mono hG4.le
 replace hr2 := hr2.mono hG4.le
 refine Rn 11 (Qo B23 30 2) [Qs B23 31] ⟨79, [(2, VL A2 ys2.length (c - 0)), (6, VB false), (7, VL A3 ((encI h (d.extract 0 ((min (d.size : Int) 300).toNat))).1.length) c3), (8, I6 ((encI h (d.extract 0 ((min (d.size : Int) 300).toNat))).2)), (34, .v (.agg #[N8 h.x0, N8 h.x1, N8 h.x2, N1 h.x3, N1 h.x4, N8 h.x5, N8 h.x6, N8 h.x7, N8 h.x8, N8 h.x9, N8 h.y0, N8 h.y1, N8 h.y2])), (35, VT (d.extract 0 ((min (d.size : Int) 300).toNat)))], []⟩ ?_
 refine Cg 79 [.agg #[N8 h.x0, N8 h.x1, N8 h.x2, N1 h.x3, N1 h.x4, N8 h.x5, N8 h.x6, N8 h.x7, N8 h.x8, N8 h.x9, N8 h.y0, N8 h.y1, N8 h.y2], .string (d.extract 0 ((min (d.size : Int) 300).toNat))] 656 (REncI_ok h (d.extract 0 ((min (d.size : Int) 300).toNat)) _ hh (by simp only [maxLen]; rw [ByteArray.size_extract]; omega)) ?_
 rintro v5 G5 rows5 hG5 ⟨A5, c5, rfl, rfl⟩
 replace hb := hb.mono hG5.le
 replace hr2 := hr2.mono hG5.le
 replace hr4 := hr4.mono hG5.le
 refine X.asR (R' := [(656, RR 5 1 A5 ((encI h (d.extract 0 ((min (d.size : Int) 300).toNat))).1.length) c5 (((encI h (d.extract 0 ((min (d.size : Int) 300).toNat))).1).map (Value.int .u8)))]) rfl ?_
 refine X.tellR [656] (R' := [(656, RR 5 1 A5 ((encI h (d.extract 0 ((min (d.size : Int) 300).toNat))).1.length) c5 (((encI h (d.extract 0 ((min (d.size : Int) 300).toNat))).1).map (Value.int .u8)))]) rfl ?_
 refine X.capLe (i := 656) (q := (RR 5 1 A5 ((encI h (d.extract 0 ((min (d.size : Int) 300).toNat))).1.length) c5 (((encI h (d.extract 0 ((min (d.size : Int) 300).toNat))).1).map (Value.int .u8)))) (n := (encI h (d.extract 0 ((min (d.size : Int) 300).toNat))).1.length) (c := c5) (A := A5) rfl rfl ?_
 intro hle6 hmx6
 refine X.freezeHd (i := 656) (n := (encI h (d.extract 0 ((min (d.size : Int) 300).toNat))).1.length) (c := c5) (A := A5) (kd := .u8) ((encI h (d.extract 0 ((min (d.size : Int) 300).toNat))).1) rfl rfl (fun x_ hx_ => by have h_ := encI_bytes hh _ x_ hx_; simp only [IntKind.lo, IntKind.hi]; omega) (by kernel_rfl) (fun _ h => h) ?_
 intro G6 hG6 hr6
 replace hb := hb.mono hG6.le
 replace hr2 := hr2.mono hG6.le
 replace hr4 := hr4.mono hG6.le
 refine Rn 10 (Qo B23 62 1) [Qs B23 63] ⟨79, [(2, VL A2 ys2.length (c - 0)), (6, VB false), (7, VL A3 ((encI h (d.extract 0 ((min (d.size : Int) 300).toNat))).1.length) c3), (8, I6 ((encI h (d.extract 0 ((min (d.size : Int) 300).toNat))).2)), (9, VL A5 ((encI h (d.extract 0 ((min (d.size : Int) 300).toNat))).1.length) c5), (10, I6 ((encI h (d.extract 0 ((min (d.size : Int) 300).toNat))).2)), (40, VL A2 ys2.length (c - 0))], []⟩ ?_
 refine Cg 80 [.slice A2 ys2.length (c - 0)] 0 (DecI_ok A2 (c - 0) ys2 _ hr2 hc2 hm2) ?_
 rintro v7 G7 rows7 hG7 ⟨rfl, rfl⟩
 replace hb := hb.mono hG7.le
 replace hr2 := hr2.mono hG7.le
 replace hr4 := hr4.mono hG7.le
 replace hr6 := hr6.mono hG7.le
 refine Rn 13 (Qo B23 126 1) [Qs B23 127] ⟨79, [(6, VB false), (7, VL A3 ((encI h (d.extract 0 ((min (d.size : Int) 300).toNat))).1.length) c3), (8, I6 ((encI h (d.extract 0 ((min (d.size : Int) 300).toNat))).2)), (9, VL A5 ((encI h (d.extract 0 ((min (d.size : Int) 300).toNat))).1.length) c5), (10, I6 ((encI h (d.extract 0 ((min (d.size : Int) 300).toNat))).2)), (11, .own 11 0), (12, VT ((decI ys2).1.2)), (13, I6 ((decI ys2).2)), (46, VL A2 ys2.length (c - 0))], [(11, ⟨113, [I8 ((decI ys2).1.1.x0), I8 ((decI ys2).1.1.x1), I8 ((decI ys2).1.1.x2), I1 ((decI ys2).1.1.x3), I1 ((decI ys2).1.1.x4), I8 ((decI ys2).1.1.x5), I8 ((decI ys2).1.1.x6), I8 ((decI ys2).1.1.x7), I8 ((decI ys2).1.1.x8), I8 ((decI ys2).1.1.x9), I8 ((decI ys2).1.1.y0), I8 ((decI ys2).1.1.y1), I8 ((decI ys2).1.1.y2)]⟩)]⟩ ?_
 refine Cg 81 [.slice A2 ys2.length (c - 0)] 0 (RDecI_ok A2 (c - 0) ys2 _ hr2 hc2 hm2) ?_
 rintro v8 G8 rows8 hG8 ⟨rfl, rfl⟩
 replace hb := hb.mono hG8.le
 replace hr2 := hr2.mono hG8.le
 replace hr4 := hr4.mono hG8.le
 replace hr6 := hr6.mono hG8.le
 refine Rn 13 (Qo B23 254 1) [Qs B23 255] ⟨79, [(6, VB false), (8, I6 ((encI h (d.extract 0 ((min (d.size : Int) 300).toNat))).2)), (9, VL A5 ((encI h (d.extract 0 ((min (d.size : Int) 300).toNat))).1.length) c5), (10, I6 ((encI h (d.extract 0 ((min (d.size : Int) 300).toNat))).2)), (11, .own 11 0), (12, VT ((decI ys2).1.2)), (13, I6 ((decI ys2).2)), (14, .own 14 0), (15, VT ((decI ys2).1.2)), (16, I6 ((decI ys2).2)), (51, VL A3 ((encI h (d.extract 0 ((min (d.size : Int) 300).toNat))).1.length) c3)], [(11, ⟨113, [I8 ((decI ys2).1.1.x0), I8 ((decI ys2).1.1.x1), I8 ((decI ys2).1.1.x2), I1 ((decI ys2).1.1.x3), I1 ((decI ys2).1.1.x4), I8 ((decI ys2).1.1.x5), I8 ((decI ys2).1.1.x6), I8 ((decI ys2).1.1.x7), I8 ((decI ys2).1.1.x8), I8 ((decI ys2).1.1.x9), I8 ((decI ys2).1.1.y0), I8 ((decI ys2).1.1.y1), I8 ((decI ys2).1.1.y2)]⟩), (14, ⟨113, [I8 ((decI ys2).1.1.x0), I8 ((decI ys2).1.1.x1), I8 ((decI ys2).1.1.x2), I1 ((decI ys2).1.1.x3), I1 ((decI ys2).1.1.x4), I8 ((decI ys2).1.1.x5), I8 ((decI ys2).1.1.x6), I8 ((decI ys2).1.1.x7), I8 ((decI ys2).1.1.x8), I8 ((decI ys2).1.1.x9), I8 ((decI ys2).1.1.y0), I8 ((decI ys2).1.1.y1), I8 ((decI ys2).1.1.y2)]⟩)]⟩ ?_
 refine X.toStrW (src := 22) (dst := 9) (e := 5) (n := (encI h (d.extract 0 ((min (d.size : Int) 300).toNat))).1.length) (c := c3) (A := A3) (x := .tmp 51) ((encI h (d.extract 0 ((min (d.size : Int) 300).toNat))).1) (by kernel_rfl) (by kernel_rfl) (by kernel_rfl) (by kernel_rfl) (by kernel_rfl) rfl (at_ints [] hr4) (fun w hw e => rowAt.none hr4 e) (by kernel_rfl) ?_
 refine Rn 1 (Qo B23 254 3) [Qs B23 255] ⟨79, [(6, VB false), (8, I6 ((encI h (d.extract 0 ((min (d.size : Int) 300).toNat))).2)), (10, I6 ((encI h (d.extract 0 ((min (d.size : Int) 300).toNat))).2)), (11, .own 11 0), (12, VT ((decI ys2).1.2)), (13, I6 ((decI ys2).2)), (14, .own 14 0), (15, VT ((decI ys2).1.2)), (16, I6 ((decI ys2).2)), (52, VT (strOf ((encI h (d.extract 0 ((min (d.size : Int) 300).toNat))).1))), (53, VL A5 ((encI h (d.extract 0 ((min (d.size : Int) 300).toNat))).1.length) c5)], [(11, ⟨113, [I8 ((decI ys2).1.1.x0), I8 ((decI ys2).1.1.x1), I8 ((decI ys2).1.1.x2), I1 ((decI ys2).1.1.x3), I1 ((decI ys2).1.1.x4), I8 ((decI ys2).1.1.x5), I8 ((decI ys2).1.1.x6), I8 ((decI ys2).1.1.x7), I8 ((decI ys2).1.1.x8), I8 ((decI ys2).1.1.x9), I8 ((decI ys2).1.1.y0), I8 ((decI ys2).1.1.y1), I8 ((decI ys2).1.1.y2)]⟩), (14, ⟨113, [I8 ((decI ys2).1.1.x0), I8 ((decI ys2).1.1.x1), I8 ((decI ys2).1.1.x2), I1 ((decI ys2).1.1.x3), I1 ((decI ys2).1.1.x4), I8 ((decI ys2).1.1.x5), I8 ((decI ys2).1.1.x6), I8 ((decI ys2).1.1.x7), I8 ((decI ys2).1.1.x8), I8 ((decI ys2).1.1.x9), I8 ((decI ys2).1.1.y0), I8 ((decI ys2).1.1.y1), I8 ((decI ys2).1.1.y2)]⟩)]⟩ ?_
 refine X.toStrW (src := 22) (dst := 9) (e := 5) (n := (encI h (d.extract 0 ((min (d.size : Int) 300).toNat))).1.length) (c := c5) (A := A5) (x := .tmp 53) ((encI h (d.extract 0 ((min (d.size : Int) 300).toNat))).1) (by kernel_rfl) (by kernel_rfl) (by kernel_rfl) (by kernel_rfl) (by kernel_rfl) rfl (at_ints [] hr6) (fun w hw e => rowAt.none hr6 e) (by kernel_rfl) ?_
 refine Rn 2 (Qo B23 254 6) [Qs B23 255] ⟨79, [(6, VB false), (8, I6 ((encI h (d.extract 0 ((min (d.size : Int) 300).toNat))).2)), (10, I6 ((encI h (d.extract 0 ((min (d.size : Int) 300).toNat))).2)), (11, .own 11 0), (12, VT ((decI ys2).1.2)), (13, I6 ((decI ys2).2)), (14, .own 14 0), (15, VT ((decI ys2).1.2)), (16, I6 ((decI ys2).2)), (56, VB ((strOf ((encI h (d.extract 0 ((min (d.size : Int) 300).toNat))).1)).toList == (strOf ((encI h (d.extract 0 ((min (d.size : Int) 300).toNat))).1)).toList))], [(11, ⟨113, [I8 ((decI ys2).1.1.x0), I8 ((decI ys2).1.1.x1), I8 ((decI ys2).1.1.x2), I1 ((decI ys2).1.1.x3), I1 ((decI ys2).1.1.x4), I8 ((decI ys2).1.1.x5), I8 ((decI ys2).1.1.x6), I8 ((decI ys2).1.1.x7), I8 ((decI ys2).1.1.x8), I8 ((decI ys2).1.1.x9), I8 ((decI ys2).1.1.y0), I8 ((decI ys2).1.1.y1), I8 ((decI ys2).1.1.y2)]⟩), (14, ⟨113, [I8 ((decI ys2).1.1.x0), I8 ((decI ys2).1.1.x1), I8 ((decI ys2).1.1.x2), I1 ((decI ys2).1.1.x3), I1 ((decI ys2).1.1.x4), I8 ((decI ys2).1.1.x5), I8 ((decI ys2).1.1.x6), I8 ((decI ys2).1.1.x7), I8 ((decI ys2).1.1.x8), I8 ((decI ys2).1.1.x9), I8 ((decI ys2).1.1.y0), I8 ((decI ys2).1.1.y1), I8 ((decI ys2).1.1.y2)]⟩)]⟩ ?_
 refine X.isTrue 56 rfl (by simp) ?_
 refine Rn 5 (Qo B23 254 11) [Qs B23 255] ⟨79, [(6, VB false), (11, .own 11 0), (12, VT ((decI ys2).1.2)), (13, I6 ((decI ys2).2)), (14, .own 14 0), (15, VT ((decI ys2).1.2)), (16, I6 ((decI ys2).2)), (61, VB (((encI h (d.extract 0 ((min (d.size : Int) 300).toNat))).2) == ((encI h (d.extract 0 ((min (d.size : Int) 300).toNat))).2)))], [(11, ⟨113, [I8 ((decI ys2).1.1.x0), I8 ((decI ys2).1.1.x1), I8 ((decI ys2).1.1.x2), I1 ((decI ys2).1.1.x3), I1 ((decI ys2).1.1.x4), I8 ((decI ys2).1.1.x5), I8 ((decI ys2).1.1.x6), I8 ((decI ys2).1.1.x7), I8 ((decI ys2).1.1.x8), I8 ((decI ys2).1.1.x9), I8 ((decI ys2).1.1.y0), I8 ((decI ys2).1.1.y1), I8 ((decI ys2).1.1.y2)]⟩), (14, ⟨113, [I8 ((decI ys2).1.1.x0), I8 ((decI ys2).1.1.x1), I8 ((decI ys2).1.1.x2), I1 ((decI ys2).1.1.x3), I1 ((decI ys2).1.1.x4), I8 ((decI ys2).1.1.x5), I8 ((decI ys2).1.1.x6), I8 ((decI ys2).1.1.x7), I8 ((decI ys2).1.1.x8), I8 ((decI ys2).1.1.x9), I8 ((decI ys2).1.1.y0), I8 ((decI ys2).1.1.y1), I8 ((decI ys2).1.1.y2)]⟩)]⟩ ?_
 refine X.isTrue 61 rfl (by simp) ?_
 refine Rn 2 (Qo B23 254 13) [Qs B23 255] ⟨79, [(6, VB false), (12, VT ((decI ys2).1.2)), (13, I6 ((decI ys2).2)), (15, VT ((decI ys2).1.2)), (16, I6 ((decI ys2).2)), (61, VB true), (62, .v (.agg #[N8 ((decI ys2).1.1.x0), N8 ((decI ys2).1.1.x1), N8 ((decI ys2).1.1.x2), N1 ((decI ys2).1.1.x3), N1 ((decI ys2).1.1.x4), N8 ((decI ys2).1.1.x5), N8 ((decI ys2).1.1.x6), N8 ((decI ys2).1.1.x7), N8 ((decI ys2).1.1.x8), N8 ((decI ys2).1.1.x9), N8 ((decI ys2).1.1.y0), N8 ((decI ys2).1.1.y1), N8 ((decI ys2).1.1.y2)])), (63, .v (.agg #[N8 ((decI ys2).1.1.x0), N8 ((decI ys2).1.1.x1), N8 ((decI ys2).1.1.x2), N1 ((decI ys2).1.1.x3), N1 ((decI ys2).1.1.x4), N8 ((decI ys2).1.1.x5), N8 ((decI ys2).1.1.x6), N8 ((decI ys2).1.1.x7), N8 ((decI ys2).1.1.x8), N8 ((decI ys2).1.1.x9), N8 ((decI ys2).1.1.y0), N8 ((decI ys2).1.1.y1), N8 ((decI ys2).1.1.y2)]))], []⟩ ?_
 refine X.eqV (t := 113) (t' := 113) (x := .tmp 62) (y := .tmp 63) (xs := #[N8 ((decI ys2).1.1.x0), N8 ((decI ys2).1.1.x1), N8 ((decI ys2).1.1.x2), N1 ((decI ys2).1.1.x3), N1 ((decI ys2).1.1.x4), N8 ((decI ys2).1.1.x5), N8 ((decI ys2).1.1.x6), N8 ((decI ys2).1.1.x7), N8 ((decI ys2).1.1.x8), N8 ((decI ys2).1.1.x9), N8 ((decI ys2).1.1.y0), N8 ((decI ys2).1.1.y1), N8 ((decI ys2).1.1.y2)]) (ys := #[N8 ((decI ys2).1.1.x0), N8 ((decI ys2).1.1.x1), N8 ((decI ys2).1.1.x2), N1 ((decI ys2).1.1.x3), N1 ((decI ys2).1.1.x4), N8 ((decI ys2).1.1.x5), N8 ((decI ys2).1.1.x6), N8 ((decI ys2).1.1.x7), N8 ((decI ys2).1.1.x8), N8 ((decI ys2).1.1.x9), N8 ((decI ys2).1.1.y0), N8 ((decI ys2).1.1.y1), N8 ((decI ys2).1.1.y2)]) (b := ((((decI ys2).1.1.x0 : Int) == ((decI ys2).1.1.x0)) && ((((decI ys2).1.1.x1 : Int) == ((decI ys2).1.1.x1)) && ((((decI ys2).1.1.x2 : Int) == ((decI ys2).1.1.x2)) && ((((decI ys2).1.1.x3 : Int) == ((decI ys2).1.1.x3)) && ((((decI ys2).1.1.x4 : Int) == ((decI ys2).1.1.x4)) && (((((decI ys2).1.1.x5 : Int) == ((decI ys2).1.1.x5)) && ((((decI ys2).1.1.x6 : Int) == ((decI ys2).1.1.x6)) && ((((decI ys2).1.1.x7 : Int) == ((decI ys2).1.1.x7)) && ((((decI ys2).1.1.x8 : Int) == ((decI ys2).1.1.x8)) && true)))) && (((((decI ys2).1.1.x9 : Int) == ((decI ys2).1.1.x9)) && ((((decI ys2).1.1.y0 : Int) == ((decI ys2).1.1.y0)) && ((((decI ys2).1.1.y1 : Int) == ((decI ys2).1.1.y1)) && ((((decI ys2).1.1.y2 : Int) == ((decI ys2).1.1.y2)) && true)))) && true)))))))) (by kernel_rfl) (by kernel_rfl) (by kernel_rfl) (by kernel_rfl) (by kernel_rfl) (by kernel_rfl) ?_
 refine Rn 2 (Qo B23 254 16) [Qs B23 255] ⟨79, [(6, VB false), (12, VT ((decI ys2).1.2)), (13, I6 ((decI ys2).2)), (15, VT ((decI ys2).1.2)), (16, I6 ((decI ys2).2)), (66, VB ((((decI ys2).1.1.x0 : Int) == ((decI ys2).1.1.x0)) && ((((decI ys2).1.1.x1 : Int) == ((decI ys2).1.1.x1)) && ((((decI ys2).1.1.x2 : Int) == ((decI ys2).1.1.x2)) && ((((decI ys2).1.1.x3 : Int) == ((decI ys2).1.1.x3)) && ((((decI ys2).1.1.x4 : Int) == ((decI ys2).1.1.x4)) && (((((decI ys2).1.1.x5 : Int) == ((decI ys2).1.1.x5)) && ((((decI ys2).1.1.x6 : Int) == ((decI ys2).1.1.x6)) && ((((decI ys2).1.1.x7 : Int) == ((decI ys2).1.1.x7)) && ((((decI ys2).1.1.x8 : Int) == ((decI ys2).1.1.x8)) && true)))) && (((((decI ys2).1.1.x9 : Int) == ((decI ys2).1.1.x9)) && ((((decI ys2).1.1.y0 : Int) == ((decI ys2).1.1.y0)) && ((((decI ys2).1.1.y1 : Int) == ((decI ys2).1.1.y1)) && ((((decI ys2).1.1.y2 : Int) == ((decI ys2).1.1.y2)) && true)))) && true))))))))], []⟩ ?_
 refine X.isTrue 66 rfl (by simp) ?_
 refine Rn 5 (Qo B23 254 21) [Qs B23 255] ⟨79, [(6, VB false), (13, I6 ((decI ys2).2)), (16, I6 ((decI ys2).2)), (71, VB (((decI ys2).1.2).toList == ((decI ys2).1.2).toList))], []⟩ ?_
 refine X.isTrue 71 rfl (by simp) ?_
 refine Rn 5 (Qo B23 254 26) [Qs B23 255] ⟨79, [(6, VB false), (76, VB (((decI ys2).2) == ((decI ys2).2)))], []⟩ ?_
 refine X.isTrue 76 rfl (by simp) ?_
 refine Cg 82 [] 0 (works46_ok _) ?_
 rintro v9 G9 rows9 hG9 ⟨rfl, rfl⟩
 replace hb := hb.mono hG9.le
 replace hr2 := hr2.mono hG9.le
 replace hr4 := hr4.mono hG9.le
 replace hr6 := hr6.mono hG9.le
 refine Rn 5 (.ex .ret) [] ⟨79, [(6, VB true)], []⟩ ?_
 refine Dg (.inl rfl) [.bool true] [] rfl (((((((hG3.trans hG4).trans hG5).trans hG6).trans hG7).trans hG8).trans hG9)) ?_
 exact ⟨rfl, rfl⟩
end Go.Proofs.YtjgpdbkkpomhjaaX
