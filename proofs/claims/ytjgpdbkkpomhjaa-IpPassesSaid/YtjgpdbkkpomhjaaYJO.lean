/- leatlaw46.IpPasses. Walked; printed by a small program of this session. Conditions: none. -/
import Derived.Test.YtjgpdbkkpomhjaaProg
import Derived.KernelRfl
import Derived.Test.YtjgpdbkkpomhjaaYJ9
import Derived.Test.YtjgpdbkkpomhjaaYJA
import Derived.Test.YtjgpdbkkpomhjaaYJN
namespace Go.Proofs.YtjgpdbkkpomhjaaX
open Go.RowKit
open Go.Proofs.YtjgpdbkkpomhjaaW.PrintLast
set_option linter.unusedVariables false
set_option linter.unusedSimpArgs false
set_option maxRecDepth 100000
/-- leat/leatlaw46.IpPasses -/
noncomputable def B26 : Code := bodyOf Try.f26
set_option maxHeartbeats 2000000 in
theorem IpPasses_ok (A : Option Addr) (c : Nat) (b : List Int) (G : Mem) (hb : rowAt (D.int .u8) G A b) (hle : b.length ≤ c) (hmx : c ≤ maxLen) : CallsG Try.prog 26 [.slice A b.length c] G (fun _ v rows => v = .bool true ∧ rows = []) := by
 simp only [maxLen] at hmx
 refine CallsG.enter Try.func26 rfl rfl ?_
 intro w
 refine Rn 11 (Qo B26 6 4) [Qs B26 7] ⟨61, [(0, VL A b.length c), (2, VB false), (11, VL A b.length c), (14, I6 (imin (b.length : Int) 300))], []⟩ ?_
 refine Kn 14 .i64 (min (b.length : Int) 300) rfl (by simp only [imin_eq, imax_eq]) ?_
 have hlo1 : 0 ≤ (min ((b.length : Nat) : Int) 300).toNat := by omega
 have hhi1 : (min ((b.length : Nat) : Int) 300).toNat ≤ b.length := by omega
 refine X.cut (t := 22) (e := 5) (sz := 1) (n := b.length) (c := c) (A := A) (x := .tmp 11) (l := none) (h := (some (.tmp 14))) (lv := none) (hv := (some (N6 (min (b.length : Int) 300)))) 0 ((min (b.length : Int) 300).toNat) (by kernel_rfl) (by kernel_rfl) (by kernel_rfl) (by kernel_rfl) (by kernel_rfl) (by kernel_rfl) (by kernel_rfl) (rfl) (⟨_, _, rfl, by omega, rfl⟩) hlo1 (Nat.le_trans hhi1 hle) ?_
 obtain ⟨A1, hA1⟩ : ∃ A_, cutA A c 0 1 = A_ := ⟨_, rfl⟩
 obtain ⟨ys1, hys1⟩ : ∃ l_, (b.take ((min ((b.length : Nat) : Int) 300).toNat)).drop 0 = l_ := ⟨_, rfl⟩
 have hr1 : rowAt (D.int .u8) G (cutA A c 0 1) ((b.take ((min ((b.length : Nat) : Int) 300).toNat)).drop 0) := rowAt_cut hb hlo1 hhi1 hle
 have hl1 : ((min ((b.length : Nat) : Int) 300).toNat) - 0 = ys1.length := by rw [← hys1, List.length_drop, List.length_take]; omega
 have hc1 : ys1.length ≤ c - 0 := by omega
 have hm1 : c - 0 ≤ maxLen := Nat.le_trans (Nat.sub_le _ _) hmx
 rw [hys1, show cutA A c 0 _ = A1 from hA1] at hr1
 rw [hA1, hl1]
 refine Rn 6 (Qo B26 14 1) [Qs B26 15] ⟨61, [(0, VL A1 ys1.length (c - 0)), (2, VB false), (17, VL A1 ys1.length (c - 0))], []⟩ ?_
 refine Cg 87 [.slice A1 ys1.length (c - 0)] 718 (Hop_ok A1 (c - 0) ys1 _ hr1 hc1 hm1) ?_
 rintro v2 G2 rows2 hG2 ⟨A2, c2, rfl, rfl⟩
 replace hb := hb.mono hG2.le
 replace hr1 := hr1.mono hG2.le
 refine X.asR (R' := [(718, RR 5 1 A2 ((hopI ys1).1.length) c2 (((hopI ys1).1).map (Value.int .u8)))]) rfl ?_
 refine X.tellR [718] (R' := [(718, RR 5 1 A2 ((hopI ys1).1.length) c2 (((hopI ys1).1).map (Value.int .u8)))]) rfl ?_
 refine X.capLe (i := 718) (q := (RR 5 1 A2 ((hopI ys1).1.length) c2 (((hopI ys1).1).map (Value.int .u8)))) (n := (hopI ys1).1.length) (c := c2) (A := A2) rfl rfl ?_
 intro hle3 hmx3
 refine X.freezeHd (i := 718) (n := (hopI ys1).1.length) (c := c2) (A := A2) (kd := .u8) ((hopI ys1).1) rfl rfl (fun x_ hx_ => by have h_ := hopI_bytes (row_bytes hr1) x_ hx_; simp only [IntKind.lo, IntKind.hi]; omega) (by kernel_rfl) (fun _ h => h) ?_
 intro G3 hG3 hr3
 replace hb := hb.mono hG3.le
 replace hr1 := hr1.mono hG3.le
 refine Rn 10 (Qo B26 30 1) [Qs B26 31] ⟨61, [(0, VL A1 ys1.length (c - 0)), (2, VB false), (3, VL A2 ((hopI ys1).1.length) c2), (4, I6 ((hopI ys1).2)), (22, VL A1 ys1.length (c - 0))], []⟩ ?_
 refine Cg 88 [.slice A1 ys1.length (c - 0)] 723 (RHop_ok A1 (c - 0) ys1 _ hr1 hc1 hm1) ?_
 rintro v4 G4 rows4 hG4 ⟨A4, c4, rfl, rfl⟩
 replace hb := hb.mono hG4.le
 replace hr1 := hr1.mono hG4.le
 replace hr3 := hr3.mono hG4.le
 refine X.asR (R' := [(723, RR 5 1 A4 ((hopI ys1).1.length) c4 (((hopI ys1).1).map (Value.int .u8)))]) rfl ?_
 refine X.tellR [723] (R' := [(723, RR 5 1 A4 ((hopI ys1).1.length) c4 (((hopI ys1).1).map (Value.int .u8)))]) rfl ?_
 refine X.capLe (i := 723) (q := (RR 5 1 A4 ((hopI ys1).1.length) c4 (((hopI ys1).1).map (Value.int .u8)))) (n := (hopI ys1).1.length) (c := c4) (A := A4) rfl rfl ?_
 intro hle5 hmx5
 refine X.freezeHd (i := 723) (n := (hopI ys1).1.length) (c := c4) (A := A4) (kd := .u8) ((hopI ys1).1) rfl rfl (fun x_ hx_ => by have h_ := hopI_bytes (row_bytes hr1) x_ hx_; simp only [IntKind.lo, IntKind.hi]; omega) (by kernel_rfl) (fun _ h => h) ?_
 intro G5 hG5 hr5
 replace hb := hb.mono hG5.le
 replace hr1 := hr1.mono hG5.le
 replace hr3 := hr3.mono hG5.le
 refine Rn 10 (Qo B26 62 1) [Qs B26 63] ⟨61, [(0, VL A1 ys1.length (c - 0)), (2, VB false), (3, VL A2 ((hopI ys1).1.length) c2), (4, I6 ((hopI ys1).2)), (5, VL A4 ((hopI ys1).1.length) c4), (6, I6 ((hopI ys1).2)), (27, VL A1 ys1.length (c - 0))], []⟩ ?_
 refine Cg 86 [.slice A1 ys1.length (c - 0)] 728 (Mark_ok A1 (c - 0) ys1 _ hr1 hc1 hm1) ?_
 rintro v6 G6 rows6 hG6 ⟨A6, c6, rfl, rfl⟩
 replace hb := hb.mono hG6.le
 replace hr1 := hr1.mono hG6.le
 replace hr3 := hr3.mono hG6.le
 replace hr5 := hr5.mono hG6.le
 refine X.asR (R' := [(728, RR 5 1 A6 ((markI ys1).1.length) c6 (((markI ys1).1).map (Value.int .u8)))]) rfl ?_
 refine X.tellR [728] (R' := [(728, RR 5 1 A6 ((markI ys1).1.length) c6 (((markI ys1).1).map (Value.int .u8)))]) rfl ?_
 refine X.capLe (i := 728) (q := (RR 5 1 A6 ((markI ys1).1.length) c6 (((markI ys1).1).map (Value.int .u8)))) (n := (markI ys1).1.length) (c := c6) (A := A6) rfl rfl ?_
 intro hle7 hmx7
 refine X.freezeHd (i := 728) (n := (markI ys1).1.length) (c := c6) (A := A6) (kd := .u8) ((markI ys1).1) rfl rfl (fun x_ hx_ => by have h_ := markI_bytes (row_bytes hr1) x_ hx_; simp only [IntKind.lo, IntKind.hi]; omega) (by kernel_rfl) (fun _ h => h) ?_
 intro G7 hG7 hr7
 replace hb := hb.mono hG7.le
 replace hr1 := hr1.mono hG7.le
 replace hr3 := hr3.mono hG7.le
 replace hr5 := hr5.mono hG7.le
 refine Rn 10 (Qo B26 126 1) [Qs B26 127] ⟨61, [(2, VB false), (3, VL A2 ((hopI ys1).1.length) c2), (4, I6 ((hopI ys1).2)), (5, VL A4 ((hopI ys1).1.length) c4), (6, I6 ((hopI ys1).2)), (7, VL A6 ((markI ys1).1.length) c6), (8, I6 ((markI ys1).2)), (32, VL A1 ys1.length (c - 0))], []⟩ ?_
 refine Cg 89 [.slice A1 ys1.length (c - 0)] 733 (RMark_ok A1 (c - 0) ys1 _ hr1 hc1 hm1) ?_
 rintro v8 G8 rows8 hG8 ⟨A8, c8, rfl, rfl⟩
 replace hb := hb.mono hG8.le
 replace hr1 := hr1.mono hG8.le
 replace hr3 := hr3.mono hG8.le
 replace hr5 := hr5.mono hG8.le
 replace hr7 := hr7.mono hG8.le
 refine X.asR (R' := [(733, RR 5 1 A8 ((markI ys1).1.length) c8 (((markI ys1).1).map (Value.int .u8)))]) rfl ?_
 refine X.tellR [733] (R' := [(733, RR 5 1 A8 ((markI ys1).1.length) c8 (((markI ys1).1).map (Value.int .u8)))]) rfl ?_
 refine X.capLe (i := 733) (q := (RR 5 1 A8 ((markI ys1).1.length) c8 (((markI ys1).1).map (Value.int .u8)))) (n := (markI ys1).1.length) (c := c8) (A := A8) rfl rfl ?_
 intro hle9 hmx9
 refine X.freezeHd (i := 733) (n := (markI ys1).1.length) (c := c8) (A := A8) (kd := .u8) ((markI ys1).1) rfl rfl (fun x_ hx_ => by have h_ := markI_bytes (row_bytes hr1) x_ hx_; simp only [IntKind.lo, IntKind.hi]; omega) (by kernel_rfl) (fun _ h => h) ?_
 intro G9 hG9 hr9
 replace hb := hb.mono hG9.le
 replace hr1 := hr1.mono hG9.le
 replace hr3 := hr3.mono hG9.le
 replace hr5 := hr5.mono hG9.le
 replace hr7 := hr7.mono hG9.le
 refine Rn 10 (Qo B26 254 1) [Qs B26 255] ⟨61, [(2, VB false), (4, I6 ((hopI ys1).2)), (5, VL A4 ((hopI ys1).1.length) c4), (6, I6 ((hopI ys1).2)), (7, VL A6 ((markI ys1).1.length) c6), (8, I6 ((markI ys1).2)), (9, VL A8 ((markI ys1).1.length) c8), (10, I6 ((markI ys1).2)), (36, VL A2 ((hopI ys1).1.length) c2)], []⟩ ?_
 refine X.toStrW (src := 22) (dst := 9) (e := 5) (n := (hopI ys1).1.length) (c := c2) (A := A2) (x := .tmp 36) ((hopI ys1).1) (by kernel_rfl) (by kernel_rfl) (by kernel_rfl) (by kernel_rfl) (by kernel_rfl) rfl (at_ints [] hr3) (fun w hw e => rowAt.none hr3 e) (by kernel_rfl) ?_
 refine Rn 1 (Qo B26 254 3) [Qs B26 255] ⟨61, [(2, VB false), (4, I6 ((hopI ys1).2)), (6, I6 ((hopI ys1).2)), (7, VL A6 ((markI ys1).1.length) c6), (8, I6 ((markI ys1).2)), (9, VL A8 ((markI ys1).1.length) c8), (10, I6 ((markI ys1).2)), (37, VT (strOf ((hopI ys1).1))), (38, VL A4 ((hopI ys1).1.length) c4)], []⟩ ?_
 refine X.toStrW (src := 22) (dst := 9) (e := 5) (n := (hopI ys1).1.length) (c := c4) (A := A4) (x := .tmp 38) ((hopI ys1).1) (by kernel_rfl) (by kernel_rfl) (by kernel_rfl) (by kernel_rfl) (by kernel_rfl) rfl (at_ints [] hr5) (fun w hw e => rowAt.none hr5 e) (by kernel_rfl) ?_
 refine Rn 2 (Qo B26 254 6) [Qs B26 255] ⟨61, [(2, VB false), (4, I6 ((hopI ys1).2)), (6, I6 ((hopI ys1).2)), (7, VL A6 ((markI ys1).1.length) c6), (8, I6 ((markI ys1).2)), (9, VL A8 ((markI ys1).1.length) c8), (10, I6 ((markI ys1).2)), (41, VB ((strOf ((hopI ys1).1)).toList == (strOf ((hopI ys1).1)).toList))], []⟩ ?_
 refine X.isTrue 41 rfl (by simp) ?_
 refine Rn 5 (Qo B26 254 11) [Qs B26 255] ⟨61, [(2, VB false), (7, VL A6 ((markI ys1).1.length) c6), (8, I6 ((markI ys1).2)), (9, VL A8 ((markI ys1).1.length) c8), (10, I6 ((markI ys1).2)), (46, VB (((hopI ys1).2) == ((hopI ys1).2)))], []⟩ ?_
 refine X.isTrue 46 rfl (by simp) ?_
 refine Rn 1 (Qo B26 254 12) [Qs B26 255] ⟨61, [(2, VB false), (8, I6 ((markI ys1).2)), (9, VL A8 ((markI ys1).1.length) c8), (10, I6 ((markI ys1).2)), (46, VB true), (47, VL A6 ((markI ys1).1.length) c6)], []⟩ ?_
 refine X.toStrW (src := 22) (dst := 9) (e := 5) (n := (markI ys1).1.length) (c := c6) (A := A6) (x := .tmp 47) ((markI ys1).1) (by kernel_rfl) (by kernel_rfl) (by kernel_rfl) (by kernel_rfl) (by kernel_rfl) rfl (at_ints [] hr7) (fun w hw e => rowAt.none hr7 e) (by kernel_rfl) ?_
 refine Rn 1 (Qo B26 254 14) [Qs B26 255] ⟨61, [(2, VB false), (8, I6 ((markI ys1).2)), (10, I6 ((markI ys1).2)), (46, VB true), (48, VT (strOf ((markI ys1).1))), (49, VL A8 ((markI ys1).1.length) c8)], []⟩ ?_
 refine X.toStrW (src := 22) (dst := 9) (e := 5) (n := (markI ys1).1.length) (c := c8) (A := A8) (x := .tmp 49) ((markI ys1).1) (by kernel_rfl) (by kernel_rfl) (by kernel_rfl) (by kernel_rfl) (by kernel_rfl) rfl (at_ints [] hr9) (fun w hw e => rowAt.none hr9 e) (by kernel_rfl) ?_
 refine Rn 3 (Qo B26 254 18) [Qs B26 255] ⟨61, [(2, VB false), (8, I6 ((markI ys1).2)), (10, I6 ((markI ys1).2)), (53, VB ((strOf ((markI ys1).1)).toList == (strOf ((markI ys1).1)).toList))], []⟩ ?_
 refine X.isTrue 53 rfl (by simp) ?_
 refine Rn 5 (Qo B26 254 23) [Qs B26 255] ⟨61, [(2, VB false), (58, VB (((markI ys1).2) == ((markI ys1).2)))], []⟩ ?_
 refine X.isTrue 58 rfl (by simp) ?_
 refine Cg 82 [] 0 (works46_ok _) ?_
 rintro v10 G10 rows10 hG10 ⟨rfl, rfl⟩
 replace hb := hb.mono hG10.le
 replace hr1 := hr1.mono hG10.le
 replace hr3 := hr3.mono hG10.le
 replace hr5 := hr5.mono hG10.le
 replace hr7 := hr7.mono hG10.le
 replace hr9 := hr9.mono hG10.le
 refine Rn 5 (.ex .ret) [] ⟨61, [(2, VB true)], []⟩ ?_
 refine Dg (.inl rfl) [.bool true] [] rfl (((((((((hG2.trans hG3).trans hG4).trans hG5).trans hG6).trans hG7).trans hG8).trans hG9).trans hG10)) ?_
 exact ⟨rfl, rfl⟩
end Go.Proofs.YtjgpdbkkpomhjaaX
