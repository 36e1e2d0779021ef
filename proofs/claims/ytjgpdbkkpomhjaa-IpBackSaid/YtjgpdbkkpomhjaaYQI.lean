/- leatlaw46.IpBack. Walked; printed by a small program of this session. Conditions: none. -/
import Derived.Test.YtjgpdbkkpomhjaaProg
import Derived.KernelRfl
import Derived.Test.YtjgpdbkkpomhjaaYQF
import Derived.Test.YtjgpdbkkpomhjaaYQH
import Derived.Test.YtjgpdbkkpomhjaaYJ9
namespace Go.Proofs.YtjgpdbkkpomhjaaX
open Go.RowKit
open Go.Proofs.YtjgpdbkkpomhjaaW.PrintLast
set_option linter.unusedVariables false
set_option linter.unusedSimpArgs false
set_option maxRecDepth 100000
theorem chn_lnk {m : Bool} : ∀ {l : List Pk} {s : Nat}, chn m s l → ∀ {x : Pk}, x ∈ l → ∃ s m, Lnk s m x
 | [], _, h, _, _ => h.elim
 | [x], s, h, y, hy => by rw [List.mem_singleton.1 hy]; exact ⟨_, _, h⟩
 | x :: z :: l, s, h, y, hy => by
  rcases List.mem_cons.1 hy with rfl | hy
  · exact ⟨_, _, h.1⟩
  · exact chn_lnk h.2 hy
theorem sP_short {H : Ih} (h4 : H.x4 = 0) {d : ByteArray} (hd : d.size ≤ 300) {m1 : Int} (hm1 : 28 ≤ m1) : (sP (H, d) m1).length ≤ 38 := by
 have hl1 : Lnk 0 false (H, d) := ⟨by show H.x4 % 8192 * 8 = _; omega, by show (H.x4 / 8192 % 2 == 1) = false; rw [h4]; rfl, fun h => by cases h⟩
 have h1 := sP_chn hm1 hl1 (by show H.x4 % 8192 + (d.size : Int) / 8 ≤ 8191; omega)
 have h2 := chn_len h1.1
 rw [h1.2, bytesL_length] at h2
 have h3 : 8 * ((sP (H, d) m1).length - 1) ≤ d.size := h2.2
 omega
theorem sP_all {H : Ih} (h4 : H.x4 = 0) {d : ByteArray} (hd : d.size ≤ 300) {m1 : Int} (hm1 : 28 ≤ m1) : chn false 0 (sP (H, d) m1) := by
 have hl1 : Lnk 0 false (H, d) := ⟨by show H.x4 % 8192 * 8 = _; omega, by show (H.x4 / 8192 % 2 == 1) = false; rw [h4]; rfl, fun h => by cases h⟩
 exact (sP_chn hm1 hl1 (by show H.x4 % 8192 + (d.size : Int) / 8 ≤ 8191; omega)).1
/-- leat/leatlaw46.IpBack -/
noncomputable def B25 : Code := bodyOf Try.f25
set_option maxHeartbeats 4000000 in
theorem IpBack_ok (h : Ih) (d : ByteArray) (w0 w1 w2 w3 : Int) (G : Mem) (hh : h.ok) (hd : d.size ≤ maxLen) (hw0 : 0 ≤ w0 ∧ w0 ≤ 255) (hw1 : 0 ≤ w1 ∧ w1 ≤ 255) (hw2 : 0 ≤ w2 ∧ w2 ≤ 255) (hw3 : 0 ≤ w3 ∧ w3 ≤ 255) : CallsG Try.prog 25 [.agg #[.int .u8 h.x0, .int .u8 h.x1, .int .u8 h.x2, .int .u16 h.x3, .int .u16 h.x4, .int .u8 h.x5, .int .u8 h.x6, .int .u8 h.x7, .int .u8 h.x8, .int .u8 h.x9, .int .u8 h.y0, .int .u8 h.y1, .int .u8 h.y2], .string d, .agg #[.int .u8 w0, .int .u8 w1, .int .u8 w2, .int .u8 w3]] G (fun _ v rows => v = .bool true ∧ rows = []) := by
 simp only [maxLen] at hd
 have hH_ : (frI h 0).ok := frI_ok hh (by decide)
 refine CallsG.enter Try.func25 rfl rfl ?_
 intro w
 refine Rn 19 (Qo B25 14 4) [Qs B25 15] ⟨153, [(1, VT d), (3, .own 3 0), (5, .own 5 0), (6, VB false), (27, VT d), (30, I6 (imin (d.size : Int) 300))], [(3, ⟨113, [I8 h.x0, I8 h.x1, I8 h.x2, I1 h.x3, I1 0, I8 h.x5, I8 h.x6, I8 h.x7, I8 h.x8, I8 h.x9, I8 h.y0, I8 h.y1, I8 h.y2]⟩), (5, ⟨55, [I8 w0, I8 w1, I8 w2, I8 w3]⟩)]⟩ ?_
 refine Kn 30 .i64 (min (d.size : Int) 300) rfl (by simp only [imin_eq, imax_eq]) ?_
 refine X.cutStr (t := 9) (b := d) (x := .tmp 27) (l := none) (h := (some (.tmp 30))) (lv := none) (hv := (some (N6 (min (d.size : Int) 300)))) 0 ((min (d.size : Int) 300).toNat) (by kernel_rfl) (by kernel_rfl) (by kernel_rfl) (by kernel_rfl) (by kernel_rfl) (by kernel_rfl) (rfl) (⟨_, _, rfl, by omega, rfl⟩) (by first | (omega) | decide) (by first | (omega) | decide) ?_
 obtain ⟨d2_, hd2_⟩ : ∃ z_, d.extract 0 ((min (d.size : Int) 300).toNat) = z_ := ⟨_, rfl⟩
 have hd3_ : d2_.size ≤ 300 := by rw [← hd2_, ByteArray.size_extract]; omega
 refine X.known 31 (y := VT d2_) rfl (congrArg (fun z_ => AV.v (Value.string z_)) (hd2_)) ?_
 refine Rn 7 (Qo B25 30 2) [Qs B25 31] ⟨153, [(1, VT d2_), (3, .own 3 0), (5, .own 5 0), (6, VB false), (33, .v (.agg #[N8 h.x0, N8 h.x1, N8 h.x2, N1 h.x3, N1 0, N8 h.x5, N8 h.x6, N8 h.x7, N8 h.x8, N8 h.x9, N8 h.y0, N8 h.y1, N8 h.y2])), (34, VT d2_)], [(3, ⟨113, [I8 h.x0, I8 h.x1, I8 h.x2, I1 h.x3, I1 0, I8 h.x5, I8 h.x6, I8 h.x7, I8 h.x8, I8 h.x9, I8 h.y0, I8 h.y1, I8 h.y2]⟩), (5, ⟨55, [I8 w0, I8 w1, I8 w2, I8 w3]⟩)]⟩ ?_
 refine Cg 78 [.agg #[N8 h.x0, N8 h.x1, N8 h.x2, N1 h.x3, N1 0, N8 h.x5, N8 h.x6, N8 h.x7, N8 h.x8, N8 h.x9, N8 h.y0, N8 h.y1, N8 h.y2], .string d2_] 655 (EncI_ok (frI h 0) d2_ _ hH_ (by simp only [maxLen]; omega)) ?_
 rintro v1 G1 rows1 hG1 ⟨A1, c1, rfl, rfl⟩
 refine X.asR (R' := [(655, RR 5 1 A1 ((encI (frI h 0) d2_).1.length) c1 (((encI (frI h 0) d2_).1).map (Value.int .u8)))]) rfl ?_
 obtain ⟨b0_, hb0_⟩ : ∃ z_, (encI (frI h 0) d2_).1 = z_ := ⟨_, rfl⟩
 have hbb_ : isBytes b0_ := by rw [← hb0_]; exact encI_bytes hH_ _
 have hbd_ : decI b0_ = (((frI h 0), d2_), 0) := by rw [← hb0_]; exact decI_enc hH_ (by show (0 : Int) < 32768; decide) (by omega)
 rw [hb0_, encI_two (h := (frI h 0)) (d := d2_) hd3_ (by show (0 : Int) < 32768; decide)]
 refine X.tellR [655] (R' := [(655, RR 5 1 A1 b0_.length c1 (b0_.map (Value.int .u8)))]) rfl ?_
 refine X.capLe (i := 655) (q := (RR 5 1 A1 b0_.length c1 (b0_.map (Value.int .u8)))) (n := b0_.length) (c := c1) (A := A1) rfl rfl ?_
 intro hle2 hmx2
 refine X.freezeHd (i := 655) (n := b0_.length) (c := c1) (A := A1) (kd := .u8) (b0_) rfl rfl (fun x_ hx_ => by have h_ := hbb_ x_ hx_; simp only [IntKind.lo, IntKind.hi]; omega) (by kernel_rfl) (fun _ h => h) ?_
 intro G2 hG2 hr2
 refine Rn 13 (Qo B25 62 4) [Qs B25 63] ⟨153, [(1, VT d2_), (3, .own 3 0), (5, .own 5 0), (6, VB false), (39, VL A1 b0_.length c1), (42, I6 (IntKind.i64.wrap w0))], [(3, ⟨113, [I8 h.x0, I8 h.x1, I8 h.x2, I1 h.x3, I1 0, I8 h.x5, I8 h.x6, I8 h.x7, I8 h.x8, I8 h.x9, I8 h.y0, I8 h.y1, I8 h.y2]⟩), (5, ⟨55, [I8 w0, I8 w1, I8 w2, I8 w3]⟩)]⟩ ?_
 refine Kn 42 .i64 w0 rfl (wi64 (by omega) (by omega)) ?_
 refine Rn 1 (Qo B25 62 5) [Qs B25 63] ⟨153, [(1, VT d2_), (3, .own 3 0), (5, .own 5 0), (6, VB false), (39, VL A1 b0_.length c1), (43, I6 (IntKind.i64.wrap (28 + w0)))], [(3, ⟨113, [I8 h.x0, I8 h.x1, I8 h.x2, I1 h.x3, I1 0, I8 h.x5, I8 h.x6, I8 h.x7, I8 h.x8, I8 h.x9, I8 h.y0, I8 h.y1, I8 h.y2]⟩), (5, ⟨55, [I8 w0, I8 w1, I8 w2, I8 w3]⟩)]⟩ ?_
 refine Kn 43 .i64 (28 + w0) rfl (wi64 (by omega) (by omega)) ?_
 refine Cg 85 [.slice A1 b0_.length c1, N6 (28 + w0)] 51 (Split_ok A1 c1 b0_ _ hr2 hle2 hmx2 (frI h 0) d2_ (28 + w0) hbd_ (by omega) (by show (0 : Int) < 16384; decide) (by show (0 : Int) % 8192 + _ ≤ _; omega)) ?_
 rintro v3 G3 rows3 hG3 ⟨A3, c3, cs3, rfl, rfl, hcs3⟩
 replace hr2 := hr2.mono hG3.le
 obtain ⟨P1_, hP1d_⟩ : ∃ z_, (sP ((frI h 0), d2_) (28 + w0)) = z_ := ⟨_, rfl⟩
 obtain ⟨q1_, hq1_⟩ : ∃ z_, P1_.map encP = z_ := ⟨_, rfl⟩
 have hsp_ : splS (frI h 0) d2_ (28 + w0) = q1_ := by rw [← hq1_, ← hP1d_]; exact splS_is ((frI h 0), d2_) _
 rw [hsp_] at hcs3
 rw [hsp_]
 have hq1l_ : q1_.length = P1_.length := by rw [← hq1_, List.length_map]
 have hP1_ := ip_first (H := (frI h 0)) rfl hd3_ (show 28 ≤ 28 + w0 by omega)
 have hpos_ := sP_pos (H := (frI h 0)) rfl hd3_ (show 28 ≤ 28 + w0 by omega)
 have hq1b_ := sP_short (H := (frI h 0)) rfl hd3_ (show 28 ≤ 28 + w0 by omega)
 rw [hP1d_] at hP1_ hpos_ hq1b_
 obtain ⟨kk_, hkk_⟩ : ∃ z_, w2.toNat % q1_.length = z_ := ⟨_, rfl⟩
 have hkl_ : kk_ < P1_.length := by rw [← hkk_, hq1l_]; exact Nat.mod_lt _ hpos_
 have hall_ := ip_back (H := (frI h 0)) hH_ rfl hd3_ (m1 := 28 + w0) (m2 := 28 + w1) (by omega) (by omega) (k := kk_) (by rw [hP1d_]; exact hkl_)
 obtain ⟨hch_, hcat_, hqp_, hmk_, hl0_, hl38_⟩ := hall_
 have hup_ : allP (frI h 0) d2_ (28 + w0) (28 + w1) kk_ = uptoP (frI h 0) P1_ (28 + w1) kk_ q1_.length := by unfold allP; rw [hP1d_, hq1l_]; rfl
 rw [hup_] at hch_ hcat_ hqp_ hmk_ hl0_ hl38_
 have hq1n_ : 0 < q1_.length := by omega
 refine X.asR (R' := [(51, RR 22 1 A3 q1_.length c3 cs3)]) rfl ?_
 refine X.tellR [51] (R' := [(51, RR 22 1 A3 q1_.length c3 cs3)]) rfl ?_
 refine X.capLe (i := 51) (q := (RR 22 1 A3 q1_.length c3 cs3)) (n := q1_.length) (c := c3) (A := A3) rfl rfl ?_
 intro hle4 hmx4
 refine X.freezeT (d := D.slice (D.int .u8)) (i := 51) (n := q1_.length) (c := c3) (A := A3) (q1_) rfl (by decide) (fun _ hl_ => hcs3.mono hl_) (by kernel_rfl) (fun _ h => h) ?_
 intro G4 hG4 hr4
 replace hr2 := hr2.mono hG4.le
 refine Rn 19 (Qc B25 253) [Qs B25 127] ⟨153, [(1, VT d2_), (3, .own 3 0), (5, .own 5 0), (6, VB false), (9, VL A3 q1_.length c3), (53, VB ((q1_.length : Int) == 0))], [(3, ⟨113, [I8 h.x0, I8 h.x1, I8 h.x2, I1 h.x3, I1 0, I8 h.x5, I8 h.x6, I8 h.x7, I8 h.x8, I8 h.x9, I8 h.y0, I8 h.y1, I8 h.y2]⟩), (5, ⟨55, [I8 w0, I8 w1, I8 w2, I8 w3]⟩)]⟩ ?_
 refine X.isFalse 53 rfl (decide_eq_false (by omega)) ?_
 refine Rn 17 (Qc B25 2042) [.blk 0, Qs B25 511] ⟨153, [(1, VT d2_), (3, .own 3 0), (5, .own 5 0), (6, VB false), (9, VL A3 q1_.length c3), (11, VL none 0 0), (54, VL A3 q1_.length c3), (55, I6 (q1_.length : Int)), (56, I6 0)], [(3, ⟨113, [I8 h.x0, I8 h.x1, I8 h.x2, I1 h.x3, I1 0, I8 h.x5, I8 h.x6, I8 h.x7, I8 h.x8, I8 h.x9, I8 h.y0, I8 h.y1, I8 h.y2]⟩), (5, ⟨55, [I8 w0, I8 w1, I8 w2, I8 w3]⟩)]⟩ ?_
 have hchP_ := sP_all (H := (frI h 0)) rfl hd3_ (show 28 ≤ 28 + w0 by omega)
 rw [hP1d_] at hchP_
 refine X.nilRow 30 22 1 rfl ?_
 refine Rn 0 (Qc B25 2042) [.blk 0, Qs B25 511] ⟨153, [(1, VT d2_), (3, .own 3 0), (5, .own 5 0), (9, VL A3 q1_.length c3), (11, VL none 0 0), (54, VL A3 q1_.length c3), (55, I6 (q1_.length : Int)), (56, I6 0)], [(3, ⟨113, [I8 h.x0, I8 h.x1, I8 h.x2, I1 h.x3, I1 0, I8 h.x5, I8 h.x6, I8 h.x7, I8 h.x8, I8 h.x9, I8 h.y0, I8 h.y1, I8 h.y2]⟩), (5, ⟨55, [I8 w0, I8 w1, I8 w2, I8 w3]⟩)]⟩ ?_
 refine X.loopJ (fun m s R' G' => ∃ (B_ : Option Addr) (c_ n_ : Nat) (L_ : List Sv) (t_ : Int) (i_ : Nat), s = ⟨153, [(1, VT d2_), (3, .own 3 0), (5, .own 5 0), (9, VL A3 q1_.length c3), (11, VL B_ n_ c_), (54, VL A3 q1_.length c3), (55, I6 (q1_.length : Int)), (56, I6 (i_ : Int))], [(3, ⟨113, [I8 t_, I8 h.x1, I8 h.x2, I1 h.x3, I1 0, I8 h.x5, I8 h.x6, I8 h.x7, I8 h.x8, I8 h.x9, I8 h.y0, I8 h.y1, I8 h.y2]⟩), (5, ⟨55, [I8 w0, I8 w1, I8 w2, I8 w3]⟩)]⟩ ∧ R' = [(30, RR 22 1 B_ n_ c_ (L_.flatMap svC))] ∧ Ge G4 w.heap.size G' ∧ (i_ ≤ q1_.length ∧ L_.length = n_ ∧ t_ = tosT (frI h 0) kk_ i_ ∧ Tl G' ((uptoP (frI h 0) P1_ (28 + w1) kk_ i_).map encP) L_) ∧ m = (q1_.length - i_)) _ ⟨none, 0, 0, [], h.x0, 0, rfl, rfl, Ge.refl _ _, ⟨by omega, rfl, tosT_zero (frI h 0) kk_, trivial⟩, rfl⟩ ?_
 rintro m5 s5 R5 G5 ⟨B_, c_, n_, L_, t_, i_, rfl, rfl, hG5, hF5, rfl⟩ J5 hJ5
 replace hr2 := hr2.mono hG5.le
 replace hr4 := hr4.mono hG5.le
 obtain ⟨hi_, hLn_, ht_, hTp_⟩ := hF5
 refine Rn 6 (Qc B25 16338) [Qs B25 16339, .loop J5, .blk 0, Qs B25 511] ⟨153, [(1, VT d2_), (3, .own 3 0), (5, .own 5 0), (9, VL A3 q1_.length c3), (11, VL B_ n_ c_), (54, VL A3 q1_.length c3), (55, I6 (q1_.length : Int)), (56, I6 (i_ : Int)), (57, VB (decide ((i_ : Int) < (q1_.length : Int))))], [(3, ⟨113, [I8 t_, I8 h.x1, I8 h.x2, I1 h.x3, I1 0, I8 h.x5, I8 h.x6, I8 h.x7, I8 h.x8, I8 h.x9, I8 h.y0, I8 h.y1, I8 h.y2]⟩), (5, ⟨55, [I8 w0, I8 w1, I8 w2, I8 w3]⟩)]⟩ ?_
 refine X.split 57 rfl (fun h6 => ?_) (fun h6 => ?_)
 ·
  replace h6 : (i_ : Int) < ((q1_.length : Nat) : Int) := of_decide_eq_true h6
  refine Rn 8 (Qo B25 130712 1) [Qs B25 130713, .blk 1, Qs B25 32679, .loop J5, .blk 0, Qs B25 511] ⟨153, [(1, VT d2_), (3, .own 3 0), (5, .own 5 0), (9, VL A3 q1_.length c3), (11, VL B_ n_ c_), (54, VL A3 q1_.length c3), (55, I6 (q1_.length : Int)), (56, I6 (i_ : Int)), (58, I6 (i_ : Int))], [(3, ⟨113, [I8 t_, I8 h.x1, I8 h.x2, I1 h.x3, I1 0, I8 h.x5, I8 h.x6, I8 h.x7, I8 h.x8, I8 h.x9, I8 h.y0, I8 h.y1, I8 h.y2]⟩), (5, ⟨55, [I8 w0, I8 w1, I8 w2, I8 w3]⟩)]⟩ ?_
  have b7 : (0 : Int) ≤ (i_ : Int) := by omega
  have b8 : (i_ : Int) < ((q1_.length : Nat) : Int) := by omega
  refine Ix 121 22 1 A3 q1_.length c3 .i64 (i_ : Int) (.tmp 54) (.tmp 56) b7 b8 (fun _ _ => rowAt.so hr4 (by omega)) ?_
  obtain ⟨A9, c9, at9, le9, mx9, hr9⟩ := At.slice [(30, ⟨22, 1, .slice B_ n_ c_, n_, L_.flatMap svC⟩)] hr4 (((i_ : Int)).toNat) (by omega)
  simp only [maxLen] at mx9
  refine Ld 22 A3 (((i_ : Int)).toNat * 1) (.tmp 59) (.slice A9 ((q1_.getD (((i_ : Int)).toNat) []).length) c9) [.slice A9 ((q1_.getD (((i_ : Int)).toNat) []).length) c9] at9 ?_
  refine Rn 10 (Qo B25 261426 4) [Qs B25 261427, .blk 1, Qs B25 32679, .loop J5, .blk 0, Qs B25 511] ⟨153, [(1, VT d2_), (3, .own 3 0), (5, .own 5 0), (9, VL A3 q1_.length c3), (11, VL B_ n_ c_), (12, I6 (i_ : Int)), (54, VL A3 q1_.length c3), (55, I6 (q1_.length : Int)), (56, I6 (i_ : Int)), (62, VL A9 ((q1_.getD (((i_ : Int)).toNat) []).length) c9), (65, I6 (IntKind.i64.wrap w1))], [(3, ⟨113, [I8 t_, I8 h.x1, I8 h.x2, I1 h.x3, I1 0, I8 h.x5, I8 h.x6, I8 h.x7, I8 h.x8, I8 h.x9, I8 h.y0, I8 h.y1, I8 h.y2]⟩), (5, ⟨55, [I8 w0, I8 w1, I8 w2, I8 w3]⟩)]⟩ ?_
  refine Kn 65 .i64 w1 rfl (wi64 (by omega) (by omega)) ?_
  refine Rn 1 (Qo B25 261426 5) [Qs B25 261427, .blk 1, Qs B25 32679, .loop J5, .blk 0, Qs B25 511] ⟨153, [(1, VT d2_), (3, .own 3 0), (5, .own 5 0), (9, VL A3 q1_.length c3), (11, VL B_ n_ c_), (12, I6 (i_ : Int)), (54, VL A3 q1_.length c3), (55, I6 (q1_.length : Int)), (56, I6 (i_ : Int)), (62, VL A9 ((q1_.getD (((i_ : Int)).toNat) []).length) c9), (66, I6 (IntKind.i64.wrap (28 + w1)))], [(3, ⟨113, [I8 t_, I8 h.x1, I8 h.x2, I1 h.x3, I1 0, I8 h.x5, I8 h.x6, I8 h.x7, I8 h.x8, I8 h.x9, I8 h.y0, I8 h.y1, I8 h.y2]⟩), (5, ⟨55, [I8 w0, I8 w1, I8 w2, I8 w3]⟩)]⟩ ?_
  refine Kn 66 .i64 (28 + w1) rfl (wi64 (by omega) (by omega)) ?_
  have hi1_ : i_ < q1_.length := by omega
  obtain ⟨x_, hx_⟩ : ∃ z_, P1_.getD i_ pk0 = z_ := ⟨_, rfl⟩
  have hqx_ : q1_.getD i_ [] = encP x_ := by rw [← hq1_, ← hx_]; exact map_getD (by omega)
  obtain ⟨hpx_, hx0_, hxp_⟩ := hP1_ x_ (by rw [← hx_]; exact getD_mem (by omega))
  have hxd_ := hpx_.dec hH_
  rw [← hqx_] at hxd_
  try simp only [Int.toNat_natCast] at *
  refine Cg 85 [.slice A9 ((q1_.getD (((i_ : Int)).toNat) []).length) c9, N6 (28 + w1)] 51 (Split_ok A9 c9 (q1_.getD (((i_ : Int)).toNat) []) _ hr9 le9 mx9 x_.1 x_.2 (28 + w1) hxd_ (by omega) hpx_.lo.2 hxp_) ?_
  rintro v10 G10 rows10 hG10 ⟨A10, c10, cs10, rfl, rfl, hcs10⟩
  replace hr2 := hr2.mono hG10.le
  replace hr4 := hr4.mono hG10.le
  replace hTp_ := hTp_.mono hG10.le
  replace hr9 := hr9.mono hG10.le
  obtain ⟨P2_, hP2_⟩ : ∃ z_, (sP x_ (28 + w1)) = z_ := ⟨_, rfl⟩
  obtain ⟨q2_, hq2_⟩ : ∃ z_, P2_.map encP = z_ := ⟨_, rfl⟩
  have hsp2_ : splS x_.1 x_.2 (28 + w1) = q2_ := by rw [← hq2_, ← hP2_]; exact splS_is x_ _
  rw [hsp2_] at hcs10
  rw [hsp2_]
  obtain ⟨Lm_, rfl, hTm_⟩ := tl_of hcs10
  have hq2l_ : q2_.length = P2_.length := by rw [← hq2_, List.length_map]
  have hLm_ : Lm_.length = q2_.length := hTm_.len
  have hgl_ := grp_len (frI h 0) P1_ (28 + w1) kk_ i_
  rw [hx_, hP2_] at hgl_
  have hul_ := uptoP_le (H := (frI h 0)) (L := P1_) (m2 := 28 + w1) (k := kk_) (show i_ + 1 ≤ q1_.length by omega)
  rw [uptoP_succ, List.length_append, hgl_] at hul_
  have hnu_ := hTp_.len
  rw [List.length_map] at hnu_
  have hnb_ : n_ + q2_.length ≤ 38 := by omega
  have hp2n_ : 0 < P2_.length := by
   obtain ⟨s_, b_, hlk_⟩ := chn_lnk (hchP_) (show x_ ∈ P1_ by rw [← hx_]; exact getD_mem (by omega))
   rw [← hP2_]
   exact (chn_len (sP_chn (by omega) hlk_ hxp_).1).1
  have hP2h_ := sP_hp (s := 0) (m := false) (H := (frI h 0)) (show 28 ≤ 28 + w1 by omega) hpx_ hxp_
  rw [hP2_] at hP2h_
  refine X.asR (R' := [(51, RR 22 1 A10 q2_.length c10 (Lm_.flatMap svC)), (30, RR 22 1 B_ n_ c_ (L_.flatMap svC))]) rfl ?_
  refine Rn 24 (Qo B25 2091420 4) [Qs B25 2091421, Qs B25 1045711, .blk 1, Qs B25 32679, .loop J5, .blk 0, Qs B25 511] ⟨153, [(1, VT d2_), (3, .own 3 0), (5, .own 5 0), (9, VL A3 q1_.length c3), (11, VL B_ n_ c_), (14, VL A10 q2_.length c10), (54, VL A3 q1_.length c3), (55, I6 (q1_.length : Int)), (56, I6 (i_ : Int)), (72, I6 (i_ : Int)), (75, I6 (IntKind.i64.wrap w2))], [(3, ⟨113, [I8 t_, I8 h.x1, I8 h.x2, I1 h.x3, I1 0, I8 h.x5, I8 h.x6, I8 h.x7, I8 h.x8, I8 h.x9, I8 h.y0, I8 h.y1, I8 h.y2]⟩), (5, ⟨55, [I8 w0, I8 w1, I8 w2, I8 w3]⟩)]⟩ ?_
  refine Kn 75 .i64 w2 rfl (wi64 (by omega) (by omega)) ?_
  refine Rn 2 (Qo B25 2091420 6) [Qs B25 2091421, Qs B25 1045711, .blk 1, Qs B25 32679, .loop J5, .blk 0, Qs B25 511] ⟨153, [(1, VT d2_), (3, .own 3 0), (5, .own 5 0), (9, VL A3 q1_.length c3), (11, VL B_ n_ c_), (14, VL A10 q2_.length c10), (54, VL A3 q1_.length c3), (55, I6 (q1_.length : Int)), (56, I6 (i_ : Int)), (72, I6 (i_ : Int)), (75, I6 w2), (77, I6 (q1_.length : Int))], [(3, ⟨113, [I8 t_, I8 h.x1, I8 h.x2, I1 h.x3, I1 0, I8 h.x5, I8 h.x6, I8 h.x7, I8 h.x8, I8 h.x9, I8 h.y0, I8 h.y1, I8 h.y2]⟩), (5, ⟨55, [I8 w0, I8 w1, I8 w2, I8 w3]⟩)]⟩ ?_
  refine X.rem (t := 3) (t' := 3) (x := .tmp 75) (y := .tmp 77) (kd := .i64) (a := w2) (b := (q1_.length : Int)) (by kernel_rfl) (by kernel_rfl) (by kernel_rfl) (by kernel_rfl) (by omega) ?_
  refine Kn 78 .i64 (kk_ : Int) rfl (by rw [tmod_nat (by omega), hkk_]) ?_
  refine Rn 3 (Qc B25 2091421) [Qs B25 1045711, .blk 1, Qs B25 32679, .loop J5, .blk 0, Qs B25 511] ⟨153, [(1, VT d2_), (3, .own 3 0), (5, .own 5 0), (9, VL A3 q1_.length c3), (11, VL B_ n_ c_), (14, VL A10 q2_.length c10), (54, VL A3 q1_.length c3), (55, I6 (q1_.length : Int)), (56, I6 (i_ : Int)), (79, VB ((i_ : Int) == (kk_ : Int)))], [(3, ⟨113, [I8 t_, I8 h.x1, I8 h.x2, I1 h.x3, I1 0, I8 h.x5, I8 h.x6, I8 h.x7, I8 h.x8, I8 h.x9, I8 h.y0, I8 h.y1, I8 h.y2]⟩), (5, ⟨55, [I8 w0, I8 w1, I8 w2, I8 w3]⟩)]⟩ ?_
  refine X.split 79 rfl (fun h11 => ?_) (fun h11 => ?_)
  ·
   replace h11 : (i_ : Int) = (kk_ : Int) := by simpa using h11
   have hik_ : i_ = kk_ := by omega
   refine Rn 7 (Qo B25 8365684 4) [Qs B25 8365685, Qs B25 1045711, .blk 1, Qs B25 32679, .loop J5, .blk 0, Qs B25 511] ⟨153, [(1, VT d2_), (3, .own 3 0), (5, .own 5 0), (9, VL A3 q1_.length c3), (11, VL B_ n_ c_), (14, VL A10 q2_.length c10), (54, VL A3 q1_.length c3), (55, I6 (q1_.length : Int)), (56, I6 (i_ : Int)), (81, VL A10 q2_.length c10), (84, I6 (IntKind.i64.wrap ((q2_.length : Int) - 1)))], [(3, ⟨113, [I8 t_, I8 h.x1, I8 h.x2, I1 h.x3, I1 0, I8 h.x5, I8 h.x6, I8 h.x7, I8 h.x8, I8 h.x9, I8 h.y0, I8 h.y1, I8 h.y2]⟩), (5, ⟨55, [I8 w0, I8 w1, I8 w2, I8 w3]⟩)]⟩ ?_
   refine Kn 84 .i64 ((q2_.length - 1 : Nat) : Int) rfl (by rw [wi64 (by omega) (by omega)]; omega) ?_
   have b12 : (0 : Int) ≤ ((q2_.length - 1 : Nat) : Int) := by omega
   have b13 : ((q2_.length - 1 : Nat) : Int) < ((q2_.length : Nat) : Int) := by omega
   refine Ix 121 22 1 A10 q2_.length c10 .i64 ((q2_.length - 1 : Nat) : Int) (.tmp 81) (.tmp 84) b12 b13 (rowSome (i := 51) (q := (RR 22 1 A10 q2_.length c10 (Lm_.flatMap svC))) rfl rfl (flat_pos svC_len (by decide) (by rw [hLm_]; omega))) ?_
   have at14 : At G10 [(51, ⟨22, 1, .slice A10 q2_.length c10, q2_.length, Lm_.flatMap svC⟩), (30, ⟨22, 1, .slice B_ n_ c_, n_, L_.flatMap svC⟩)] A10 ((((q2_.length - 1 : Nat) : Int)).toNat * 1) [.slice ((Lm_.getD ((((q2_.length - 1 : Nat) : Int)).toNat) sv0).1) ((Lm_.getD ((((q2_.length - 1 : Nat) : Int)).toNat) sv0).2.1) ((Lm_.getD ((((q2_.length - 1 : Nat) : Int)).toNat) sv0).2.2)] := At.rowF svC svC_len (i := 51) (r := ⟨22, 1, .slice A10 q2_.length c10, q2_.length, Lm_.flatMap svC⟩) sv0 rfl rfl rfl (by rw [hLm_]; omega)
   refine Rn 0 (Qo B25 8365684 5) [Qs B25 8365685, Qs B25 1045711, .blk 1, Qs B25 32679, .loop J5, .blk 0, Qs B25 511] ⟨153, [(1, VT d2_), (3, .own 3 0), (5, .own 5 0), (9, VL A3 q1_.length c3), (11, VL B_ n_ c_), (14, VL A10 q2_.length c10), (54, VL A3 q1_.length c3), (55, I6 (q1_.length : Int)), (56, I6 (i_ : Int)), (85, .v (elt A10 ((((q2_.length - 1 : Nat) : Int)).toNat * 1)))], [(3, ⟨113, [I8 t_, I8 h.x1, I8 h.x2, I1 h.x3, I1 0, I8 h.x5, I8 h.x6, I8 h.x7, I8 h.x8, I8 h.x9, I8 h.y0, I8 h.y1, I8 h.y2]⟩), (5, ⟨55, [I8 w0, I8 w1, I8 w2, I8 w3]⟩)]⟩ ?_
   have at15 : At G10 [(51, ⟨22, 1, .slice A10 q2_.length c10, q2_.length, Lm_.flatMap svC⟩), (30, ⟨22, 1, .slice B_ n_ c_, n_, L_.flatMap svC⟩)] A10 ((((q2_.length - 1 : Nat) : Int)).toNat * 1) [.slice ((Lm_.getD ((((q2_.length - 1 : Nat) : Int)).toNat) sv0).1) ((Lm_.getD ((((q2_.length - 1 : Nat) : Int)).toNat) sv0).2.1) ((Lm_.getD ((((q2_.length - 1 : Nat) : Int)).toNat) sv0).2.2)] := At.rowF svC svC_len (i := 51) (r := ⟨22, 1, .slice A10 q2_.length c10, q2_.length, Lm_.flatMap svC⟩) sv0 rfl rfl rfl (by rw [hLm_]; omega)
   refine Ld 22 A10 ((((q2_.length - 1 : Nat) : Int)).toNat * 1) (.tmp 85) (.slice ((Lm_.getD ((((q2_.length - 1 : Nat) : Int)).toNat) sv0).1) ((Lm_.getD ((((q2_.length - 1 : Nat) : Int)).toNat) sv0).2.1) ((Lm_.getD ((((q2_.length - 1 : Nat) : Int)).toNat) sv0).2.2)) [.slice ((Lm_.getD ((((q2_.length - 1 : Nat) : Int)).toNat) sv0).1) ((Lm_.getD ((((q2_.length - 1 : Nat) : Int)).toNat) sv0).2.1) ((Lm_.getD ((((q2_.length - 1 : Nat) : Int)).toNat) sv0).2.2)] at15 ?_
   refine Rn 0 (Qo B25 8365684 6) [Qs B25 8365685, Qs B25 1045711, .blk 1, Qs B25 32679, .loop J5, .blk 0, Qs B25 511] ⟨153, [(1, VT d2_), (3, .own 3 0), (5, .own 5 0), (9, VL A3 q1_.length c3), (11, VL B_ n_ c_), (14, VL A10 q2_.length c10), (54, VL A3 q1_.length c3), (55, I6 (q1_.length : Int)), (56, I6 (i_ : Int)), (86, VL ((Lm_.getD ((((q2_.length - 1 : Nat) : Int)).toNat) sv0).1) ((Lm_.getD ((((q2_.length - 1 : Nat) : Int)).toNat) sv0).2.1) ((Lm_.getD ((((q2_.length - 1 : Nat) : Int)).toNat) sv0).2.2))], [(3, ⟨113, [I8 t_, I8 h.x1, I8 h.x2, I1 h.x3, I1 0, I8 h.x5, I8 h.x6, I8 h.x7, I8 h.x8, I8 h.x9, I8 h.y0, I8 h.y1, I8 h.y2]⟩), (5, ⟨55, [I8 w0, I8 w1, I8 w2, I8 w3]⟩)]⟩ ?_
   obtain ⟨y_, hy_⟩ : ∃ z_, P2_.getD (P2_.length - 1) pk0 = z_ := ⟨_, rfl⟩
   have hyh_ := hP2h_ y_ (by rw [← hy_]; exact getD_mem (by omega))
   have hyq_ : q2_.getD (q2_.length - 1) [] = encP y_ := by rw [← hy_, ← hq2_, List.length_map]; exact map_getD (by omega)
   obtain ⟨s_, hs_⟩ : ∃ z_, (Lm_.getD ((((q2_.length - 1 : Nat) : Int)).toNat) sv0) = z_ := ⟨_, rfl⟩
   have hgs_ : Tl1 G10 (encP y_) s_ := by rw [← hyq_, ← hs_]; have h_ := hTm_.get (q2_.length - 1) (by omega); exact (by simpa using h_)
   rw [hs_]
   have hsn_ := hgs_.n
   refine X.known 86 (y := VL s_.1 (encP y_).length s_.2.2) rfl (by rw [hsn_]) ?_
   refine Cg 86 [.slice s_.1 ((encP y_).length) s_.2.2] 60 (Mark_ok s_.1 s_.2.2 (encP y_) _ hgs_.at_ hgs_.le hgs_.mx) ?_
   rintro v16 G16 rows16 hG16 ⟨A16, c16, rfl, rfl⟩
   replace hr2 := hr2.mono hG16.le
   replace hr4 := hr4.mono hG16.le
   replace hTp_ := hTp_.mono hG16.le
   replace hr9 := hr9.mono hG16.le
   replace hTm_ := hTm_.mono hG16.le
   refine X.asR (R' := [(60, RR 5 1 A16 ((markI (encP y_)).1.length) c16 (((markI (encP y_)).1).map (Value.int .u8))), (51, RR 22 1 A10 q2_.length c10 (Lm_.flatMap svC)), (30, RR 22 1 B_ n_ c_ (L_.flatMap svC))]) rfl ?_
   have hye_ : isBytes (encP y_) := encI_bytes (hyh_.1.ok hH_) _
   refine X.tellR [60, 51, 30] (R' := [(60, RR 5 1 A16 ((markI (encP y_)).1.length) c16 (((markI (encP y_)).1).map (Value.int .u8))), (51, RR 22 1 A10 q2_.length c10 (Lm_.flatMap svC)), (30, RR 22 1 B_ n_ c_ (L_.flatMap svC))]) rfl ?_
   refine X.capLe (i := 60) (q := (RR 5 1 A16 ((markI (encP y_)).1.length) c16 (((markI (encP y_)).1).map (Value.int .u8)))) (n := (markI (encP y_)).1.length) (c := c16) (A := A16) rfl rfl ?_
   intro hle17 hmx17
   refine X.freezeHd (i := 60) (n := (markI (encP y_)).1.length) (c := c16) (A := A16) (kd := .u8) ((markI (encP y_)).1) rfl rfl (fun x_ hx_ => by have h_ := markI_bytes hye_ x_ hx_; simp only [IntKind.lo, IntKind.hi]; omega) (by kernel_rfl) (fun _ h => h) ?_
   intro G17 hG17 hr17
   replace hr2 := hr2.mono hG17.le
   replace hr4 := hr4.mono hG17.le
   replace hTp_ := hTp_.mono hG17.le
   replace hr9 := hr9.mono hG17.le
   replace hTm_ := hTm_.mono hG17.le
   refine Rn 13 (Qc B25 16731371) [Qs B25 1045711, .blk 1, Qs B25 32679, .loop J5, .blk 0, Qs B25 511] ⟨153, [(1, VT d2_), (3, .own 3 0), (5, .own 5 0), (9, VL A3 q1_.length c3), (11, VL B_ n_ c_), (14, VL A10 q2_.length c10), (16, VL A16 ((markI (encP y_)).1.length) c16), (54, VL A3 q1_.length c3), (55, I6 (q1_.length : Int)), (56, I6 (i_ : Int)), (91, VB (((markI (encP y_)).2) == 0))], [(3, ⟨113, [I8 t_, I8 h.x1, I8 h.x2, I1 h.x3, I1 0, I8 h.x5, I8 h.x6, I8 h.x7, I8 h.x8, I8 h.x9, I8 h.y0, I8 h.y1, I8 h.y2]⟩), (5, ⟨55, [I8 w0, I8 w1, I8 w2, I8 w3]⟩)]⟩ ?_
   refine X.split 91 rfl (fun h18 => ?_) (fun h18 => ?_)
   ·
    replace h18 : ((markI (encP y_)).2) = 0 := by simpa using h18
    have hm4_ : ¬ y_.1.x0 % 4 = 0 := fun h_ => by rw [mark_no hH_ hyh_.1 h_] at h18; exact absurd h18 (by decide)
    have hwy_ : i_ = kk_ ∧ ((frI h 0)).x0 % 4 ≠ 0 := ⟨hik_, fun h_ => hm4_ (by rw [hyh_.2, hx0_]; exact h_)⟩
    have hmy_ := mark_yes hH_ hyh_.1 hm4_
    refine Rn 7 (Qo B25 66925484 4) [Qs B25 66925485, Qs B25 1045711, .blk 1, Qs B25 32679, .loop J5, .blk 0, Qs B25 511] ⟨153, [(1, VT d2_), (3, .own 3 0), (5, .own 5 0), (9, VL A3 q1_.length c3), (11, VL B_ n_ c_), (14, VL A10 q2_.length c10), (16, VL A16 ((markI (encP y_)).1.length) c16), (54, VL A3 q1_.length c3), (55, I6 (q1_.length : Int)), (56, I6 (i_ : Int)), (92, VL A10 q2_.length c10), (95, I6 (IntKind.i64.wrap ((q2_.length : Int) - 1)))], [(3, ⟨113, [I8 t_, I8 h.x1, I8 h.x2, I1 h.x3, I1 0, I8 h.x5, I8 h.x6, I8 h.x7, I8 h.x8, I8 h.x9, I8 h.y0, I8 h.y1, I8 h.y2]⟩), (5, ⟨55, [I8 w0, I8 w1, I8 w2, I8 w3]⟩)]⟩ ?_
    refine Kn 95 .i64 ((q2_.length - 1 : Nat) : Int) rfl (by rw [wi64 (by omega) (by omega)]; omega) ?_
    refine Rn 1 (Qo B25 66925484 5) [Qs B25 66925485, Qs B25 1045711, .blk 1, Qs B25 32679, .loop J5, .blk 0, Qs B25 511] ⟨153, [(1, VT d2_), (3, .own 3 0), (5, .own 5 0), (9, VL A3 q1_.length c3), (11, VL B_ n_ c_), (14, VL A10 q2_.length c10), (54, VL A3 q1_.length c3), (55, I6 (q1_.length : Int)), (56, I6 (i_ : Int)), (92, VL A10 q2_.length c10), (95, I6 ((q2_.length - 1 : Nat) : Int)), (96, VL A16 ((markI (encP y_)).1.length) c16)], [(3, ⟨113, [I8 t_, I8 h.x1, I8 h.x2, I1 h.x3, I1 0, I8 h.x5, I8 h.x6, I8 h.x7, I8 h.x8, I8 h.x9, I8 h.y0, I8 h.y1, I8 h.y2]⟩), (5, ⟨55, [I8 w0, I8 w1, I8 w2, I8 w3]⟩)]⟩ ?_
    have b19 : (0 : Int) ≤ ((q2_.length - 1 : Nat) : Int) := by omega
    have b20 : ((q2_.length - 1 : Nat) : Int) < ((q2_.length : Nat) : Int) := by omega
    refine Ix 121 22 1 A10 q2_.length c10 .i64 ((q2_.length - 1 : Nat) : Int) (.tmp 92) (.tmp 95) b19 b20 (rowSome (i := 51) (q := (RR 22 1 A10 q2_.length c10 (Lm_.flatMap svC))) rfl rfl (flat_pos svC_len (by decide) (by rw [hLm_]; omega))) ?_
    have at21 : At G17 [(51, ⟨22, 1, .slice A10 q2_.length c10, q2_.length, Lm_.flatMap svC⟩), (30, ⟨22, 1, .slice B_ n_ c_, n_, L_.flatMap svC⟩)] A10 ((((q2_.length - 1 : Nat) : Int)).toNat * 1) [.slice ((Lm_.getD ((((q2_.length - 1 : Nat) : Int)).toNat) sv0).1) ((Lm_.getD ((((q2_.length - 1 : Nat) : Int)).toNat) sv0).2.1) ((Lm_.getD ((((q2_.length - 1 : Nat) : Int)).toNat) sv0).2.2)] := At.rowF svC svC_len (i := 51) (r := ⟨22, 1, .slice A10 q2_.length c10, q2_.length, Lm_.flatMap svC⟩) sv0 rfl rfl rfl (by rw [hLm_]; omega)
    refine Rn 0 (Qo B25 66925484 6) [Qs B25 66925485, Qs B25 1045711, .blk 1, Qs B25 32679, .loop J5, .blk 0, Qs B25 511] ⟨153, [(1, VT d2_), (3, .own 3 0), (5, .own 5 0), (9, VL A3 q1_.length c3), (11, VL B_ n_ c_), (14, VL A10 q2_.length c10), (54, VL A3 q1_.length c3), (55, I6 (q1_.length : Int)), (56, I6 (i_ : Int)), (96, VL A16 ((markI (encP y_)).1.length) c16), (97, .v (elt A10 ((((q2_.length - 1 : Nat) : Int)).toNat * 1)))], [(3, ⟨113, [I8 t_, I8 h.x1, I8 h.x2, I1 h.x3, I1 0, I8 h.x5, I8 h.x6, I8 h.x7, I8 h.x8, I8 h.x9, I8 h.y0, I8 h.y1, I8 h.y2]⟩), (5, ⟨55, [I8 w0, I8 w1, I8 w2, I8 w3]⟩)]⟩ ?_
    refine X.storeElem (i := 51) (t := 22) (j := (((q2_.length - 1 : Nat) : Int)).toNat * 1) (n := q2_.length) (c := c10) (q := (RR 22 1 A10 q2_.length c10 (Lm_.flatMap svC))) (A := A10) (x := .tmp 97) (y := .tmp 96) (z := .slice A16 ((markI (encP y_)).1.length) c16) (by kernel_rfl) (by kernel_rfl) (by kernel_rfl) rfl rfl (by kernel_rfl) (by rw [show _ = _ from flat_len svC_len _, hLm_]; show (((q2_.length - 1 : Nat) : Int)).toNat * 1 + 1 ≤ _; omega) (by kernel_rfl) (Nat.succ_pos _) (by kernel_rfl) ?_
    refine X.tellR [51, 30] (R' := [(51, RR 22 1 A10 q2_.length c10 ((Lm_.set ((((q2_.length - 1 : Nat) : Int)).toNat) ((A16, (markI (encP y_)).1.length, c16) : Sv)).flatMap svC)), (30, RR 22 1 B_ n_ c_ (L_.flatMap svC))]) (congrArg (fun cs_ => (51, (RR 22 1 A10 q2_.length c10 cs_ : Row)) :: [(30, RR 22 1 B_ n_ c_ (L_.flatMap svC))]) (splice_flat svC_len (((A16, (markI (encP y_)).1.length, c16) : Sv) : Sv) Lm_ ((((q2_.length - 1 : Nat) : Int)).toNat) (by rw [hLm_]; omega))) ?_
    obtain ⟨l22, hl22⟩ : ∃ z_, (Lm_.set ((((q2_.length - 1 : Nat) : Int)).toNat) ((A16, (markI (encP y_)).1.length, c16) : Sv)) = z_ := ⟨_, rfl⟩
    rw [hl22]
    have hn22 : l22.length = q2_.length := by rw [← hl22, List.length_set, hLm_]
    have hTs_ : Tl G17 (q2_.set (q2_.length - 1) (markI (encP y_)).1) l22 := by
     rw [← hl22]
     have h_ := Tl.set (b := (markI (encP y_)).1) (x := (A16, (markI (encP y_)).1.length, c16)) ⟨rfl, hle17, hmx17, hr17⟩ hTm_ (q2_.length - 1)
     exact (by simpa using h_)
    have hms_ : q2_.set (q2_.length - 1) (markI (encP y_)).1 = (q2_.set (P2_.length - 1) (encP (mkP (P2_.getD (P2_.length - 1) pk0)))) := by rw [hmy_, hy_, hq2l_]
    refine Rn 6 (Qo B25 66925485 3) [Qs B25 1045711, .blk 1, Qs B25 32679, .loop J5, .blk 0, Qs B25 511] ⟨153, [(1, VT d2_), (3, .own 3 0), (5, .own 5 0), (9, VL A3 q1_.length c3), (11, VL B_ n_ c_), (14, VL A10 q2_.length c10), (54, VL A3 q1_.length c3), (55, I6 (q1_.length : Int)), (56, I6 (i_ : Int)), (100, I8 (bor .u8 t_ 3))], [(3, ⟨113, [I8 t_, I8 h.x1, I8 h.x2, I1 h.x3, I1 0, I8 h.x5, I8 h.x6, I8 h.x7, I8 h.x8, I8 h.x9, I8 h.y0, I8 h.y1, I8 h.y2]⟩), (5, ⟨55, [I8 w0, I8 w1, I8 w2, I8 w3]⟩)]⟩ ?_
    refine Kn 100 .u8 (putT h.x0 3) rfl (by rw [ht_, (tosT_mark hwy_.1 hwy_.2).1]; exact or3 hh.h0) ?_
    refine Rn 7 (Qo B25 1045711 2) [.blk 1, Qs B25 32679, .loop J5, .blk 0, Qs B25 511] ⟨153, [(1, VT d2_), (3, .own 3 0), (5, .own 5 0), (9, VL A3 q1_.length c3), (11, VL B_ n_ c_), (54, VL A3 q1_.length c3), (55, I6 (q1_.length : Int)), (56, I6 (i_ : Int)), (102, VL B_ n_ c_), (103, VL A10 q2_.length c10)], [(3, ⟨113, [I8 (putT h.x0 3), I8 h.x1, I8 h.x2, I1 h.x3, I1 0, I8 h.x5, I8 h.x6, I8 h.x7, I8 h.x8, I8 h.x9, I8 h.y0, I8 h.y1, I8 h.y2]⟩), (5, ⟨55, [I8 w0, I8 w1, I8 w2, I8 w3]⟩)]⟩ ?_
    refine Ap 30 (RR 22 1 B_ n_ c_ (L_.flatMap svC)) 121 24 (.slice none 0 0) (.tmp 102) (.tmp 103) n_ c_ q2_.length c10 B_ A10 (l22.flatMap svC) (.inl rfl) (by rw [flat_len svC_len, hn22]) (At.of_row (i := 51) (r := (RR 22 1 A10 q2_.length c10 (l22.flatMap svC))) rfl rfl) (fun w hw e => absurd (rowSome (i := 51) (q := (RR 22 1 A10 q2_.length c10 (l22.flatMap svC))) rfl rfl (flat_pos svC_len (by decide) (by omega)) w hw) (by rw [e]; decide)) ones_sv (by omega) ?_
    intro A23 c23 hc23
    refine X.tellR [30, 51] (R' := [(30, RR 22 1 A23 (n_ + q2_.length) c23 ((L_ ++ l22).flatMap svC)), (51, RR 22 1 A10 q2_.length c10 (l22.flatMap svC))]) (congrArg (fun cs_ => (30, (RR 22 1 A23 (n_ + q2_.length) c23 cs_ : Row)) :: [(51, RR 22 1 A10 q2_.length c10 (l22.flatMap svC))]) (show L_.flatMap svC ++ (l22.flatMap svC) = (L_ ++ l22).flatMap svC by simp)) ?_
    obtain ⟨l23, hl23⟩ : ∃ z_, (L_ ++ l22) = z_ := ⟨_, rfl⟩
    rw [hl23]
    have hn23 : l23.length = n_ + q2_.length := by have h_ := congrArg List.length hl23; rw [List.length_append] at h_; (try simp only [List.length_nil] at h_); omega
    refine Rn 6 (Qo B25 32679 1) [.loop J5, .blk 0, Qs B25 511] ⟨153, [(1, VT d2_), (3, .own 3 0), (5, .own 5 0), (9, VL A3 q1_.length c3), (11, VL A23 (n_ + q2_.length) c23), (54, VL A3 q1_.length c3), (55, I6 (q1_.length : Int)), (56, I6 (i_ : Int)), (105, I6 (IntKind.i64.wrap ((i_ : Int) + 1)))], [(3, ⟨113, [I8 (putT h.x0 3), I8 h.x1, I8 h.x2, I1 h.x3, I1 0, I8 h.x5, I8 h.x6, I8 h.x7, I8 h.x8, I8 h.x9, I8 h.y0, I8 h.y1, I8 h.y2]⟩), (5, ⟨55, [I8 w0, I8 w1, I8 w2, I8 w3]⟩)]⟩ ?_
    refine Kn 105 .i64 ((i_ + 1 : Nat) : Int) rfl (by rw [wi64 (by omega) (by omega)]; push_cast; rfl) ?_
    refine Rn 2 (.ex .normal) [.loop J5, .blk 0, Qs B25 511] ⟨153, [(1, VT d2_), (3, .own 3 0), (5, .own 5 0), (9, VL A3 q1_.length c3), (11, VL A23 (n_ + q2_.length) c23), (54, VL A3 q1_.length c3), (55, I6 (q1_.length : Int)), (56, I6 ((i_ + 1 : Nat) : Int))], [(3, ⟨113, [I8 (putT h.x0 3), I8 h.x1, I8 h.x2, I1 h.x3, I1 0, I8 h.x5, I8 h.x6, I8 h.x7, I8 h.x8, I8 h.x9, I8 h.y0, I8 h.y1, I8 h.y2]⟩), (5, ⟨55, [I8 w0, I8 w1, I8 w2, I8 w3]⟩)]⟩ ?_
    refine X.tellR [30] (R' := [(30, RR 22 1 A23 (n_ + q2_.length) c23 (l23.flatMap svC))]) rfl ?_
    have hTn_ : Tl G17 ((uptoP (frI h 0) P1_ (28 + w1) kk_ (i_ + 1)).map encP) l23 := by
     rw [uptoP_succ, List.map_append, grp_yes hwy_, hx_, hP2_, hq2_, ← hl23]
     exact Tl.app (by rw [← hms_]; exact hTs_) hTp_
    exact X.again (hJ5 _ _ _ _ ⟨A23, c23, (n_ + q2_.length), l23, (putT h.x0 3), (i_ + 1), rfl, rfl, (((hG5.trans hG10).trans hG16).trans hG17), ⟨by omega, hn23, (by rw [(tosT_mark hwy_.1 hwy_.2).2]; rfl), hTn_⟩, rfl⟩ (by omega))
   ·
    replace h18 : ((markI (encP y_)).2) ≠ 0 := by simpa using h18
    have hm4_ : y_.1.x0 % 4 = 0 := by
     rcases Int.decEq (y_.1.x0 % 4) 0 with h_ | h_
     · exact absurd (by rw [mark_yes hH_ hyh_.1 h_]) h18
     · exact h_
    have hwy_ : ¬ (i_ = kk_ ∧ ((frI h 0)).x0 % 4 ≠ 0) := fun h_ => h_.2 (by rw [hyh_.2, hx0_] at hm4_; exact hm4_)
    refine Rn 6 (Qo B25 1045711 2) [.blk 1, Qs B25 32679, .loop J5, .blk 0, Qs B25 511] ⟨153, [(1, VT d2_), (3, .own 3 0), (5, .own 5 0), (9, VL A3 q1_.length c3), (11, VL B_ n_ c_), (54, VL A3 q1_.length c3), (55, I6 (q1_.length : Int)), (56, I6 (i_ : Int)), (102, VL B_ n_ c_), (103, VL A10 q2_.length c10)], [(3, ⟨113, [I8 t_, I8 h.x1, I8 h.x2, I1 h.x3, I1 0, I8 h.x5, I8 h.x6, I8 h.x7, I8 h.x8, I8 h.x9, I8 h.y0, I8 h.y1, I8 h.y2]⟩), (5, ⟨55, [I8 w0, I8 w1, I8 w2, I8 w3]⟩)]⟩ ?_
    refine Ap 30 (RR 22 1 B_ n_ c_ (L_.flatMap svC)) 121 24 (.slice none 0 0) (.tmp 102) (.tmp 103) n_ c_ q2_.length c10 B_ A10 (Lm_.flatMap svC) (.inl rfl) (by rw [flat_len svC_len, hLm_]) (At.of_row (i := 51) (r := (RR 22 1 A10 q2_.length c10 (Lm_.flatMap svC))) rfl rfl) (fun w hw e => absurd (rowSome (i := 51) (q := (RR 22 1 A10 q2_.length c10 (Lm_.flatMap svC))) rfl rfl (flat_pos svC_len (by decide) (by omega)) w hw) (by rw [e]; decide)) ones_sv (by omega) ?_
    intro A24 c24 hc24
    refine X.tellR [30, 51] (R' := [(30, RR 22 1 A24 (n_ + q2_.length) c24 ((L_ ++ Lm_).flatMap svC)), (51, RR 22 1 A10 q2_.length c10 (Lm_.flatMap svC))]) (congrArg (fun cs_ => (30, (RR 22 1 A24 (n_ + q2_.length) c24 cs_ : Row)) :: [(51, RR 22 1 A10 q2_.length c10 (Lm_.flatMap svC))]) (show L_.flatMap svC ++ (Lm_.flatMap svC) = (L_ ++ Lm_).flatMap svC by simp)) ?_
    obtain ⟨l24, hl24⟩ : ∃ z_, (L_ ++ Lm_) = z_ := ⟨_, rfl⟩
    rw [hl24]
    have hn24 : l24.length = n_ + q2_.length := by have h_ := congrArg List.length hl24; rw [List.length_append] at h_; (try simp only [List.length_nil] at h_); omega
    refine Rn 6 (Qo B25 32679 1) [.loop J5, .blk 0, Qs B25 511] ⟨153, [(1, VT d2_), (3, .own 3 0), (5, .own 5 0), (9, VL A3 q1_.length c3), (11, VL A24 (n_ + q2_.length) c24), (54, VL A3 q1_.length c3), (55, I6 (q1_.length : Int)), (56, I6 (i_ : Int)), (105, I6 (IntKind.i64.wrap ((i_ : Int) + 1)))], [(3, ⟨113, [I8 t_, I8 h.x1, I8 h.x2, I1 h.x3, I1 0, I8 h.x5, I8 h.x6, I8 h.x7, I8 h.x8, I8 h.x9, I8 h.y0, I8 h.y1, I8 h.y2]⟩), (5, ⟨55, [I8 w0, I8 w1, I8 w2, I8 w3]⟩)]⟩ ?_
    refine Kn 105 .i64 ((i_ + 1 : Nat) : Int) rfl (by rw [wi64 (by omega) (by omega)]; push_cast; rfl) ?_
    refine Rn 2 (.ex .normal) [.loop J5, .blk 0, Qs B25 511] ⟨153, [(1, VT d2_), (3, .own 3 0), (5, .own 5 0), (9, VL A3 q1_.length c3), (11, VL A24 (n_ + q2_.length) c24), (54, VL A3 q1_.length c3), (55, I6 (q1_.length : Int)), (56, I6 ((i_ + 1 : Nat) : Int))], [(3, ⟨113, [I8 t_, I8 h.x1, I8 h.x2, I1 h.x3, I1 0, I8 h.x5, I8 h.x6, I8 h.x7, I8 h.x8, I8 h.x9, I8 h.y0, I8 h.y1, I8 h.y2]⟩), (5, ⟨55, [I8 w0, I8 w1, I8 w2, I8 w3]⟩)]⟩ ?_
    refine X.tellR [30] (R' := [(30, RR 22 1 A24 (n_ + q2_.length) c24 (l24.flatMap svC))]) rfl ?_
    have hTn_ : Tl G17 ((uptoP (frI h 0) P1_ (28 + w1) kk_ (i_ + 1)).map encP) l24 := by
     rw [uptoP_succ, List.map_append, grp_no hwy_, hx_, hP2_, hq2_, ← hl24]
     exact Tl.app hTm_ hTp_
    exact X.again (hJ5 _ _ _ _ ⟨A24, c24, (n_ + q2_.length), l24, t_, (i_ + 1), rfl, rfl, (((hG5.trans hG10).trans hG16).trans hG17), ⟨by omega, hn24, (by rw [tosT_same hwy_]; exact ht_), hTn_⟩, rfl⟩ (by omega))
  ·
   replace h11 : (i_ : Int) ≠ (kk_ : Int) := by simpa using h11
   have hwy_ : ¬ (i_ = kk_ ∧ ((frI h 0)).x0 % 4 ≠ 0) := fun h_ => by have := h_.1; omega
   refine Rn 6 (Qo B25 1045711 2) [.blk 1, Qs B25 32679, .loop J5, .blk 0, Qs B25 511] ⟨153, [(1, VT d2_), (3, .own 3 0), (5, .own 5 0), (9, VL A3 q1_.length c3), (11, VL B_ n_ c_), (54, VL A3 q1_.length c3), (55, I6 (q1_.length : Int)), (56, I6 (i_ : Int)), (102, VL B_ n_ c_), (103, VL A10 q2_.length c10)], [(3, ⟨113, [I8 t_, I8 h.x1, I8 h.x2, I1 h.x3, I1 0, I8 h.x5, I8 h.x6, I8 h.x7, I8 h.x8, I8 h.x9, I8 h.y0, I8 h.y1, I8 h.y2]⟩), (5, ⟨55, [I8 w0, I8 w1, I8 w2, I8 w3]⟩)]⟩ ?_
   refine Ap 30 (RR 22 1 B_ n_ c_ (L_.flatMap svC)) 121 24 (.slice none 0 0) (.tmp 102) (.tmp 103) n_ c_ q2_.length c10 B_ A10 (Lm_.flatMap svC) (.inl rfl) (by rw [flat_len svC_len, hLm_]) (At.of_row (i := 51) (r := (RR 22 1 A10 q2_.length c10 (Lm_.flatMap svC))) rfl rfl) (fun w hw e => absurd (rowSome (i := 51) (q := (RR 22 1 A10 q2_.length c10 (Lm_.flatMap svC))) rfl rfl (flat_pos svC_len (by decide) (by omega)) w hw) (by rw [e]; decide)) ones_sv (by omega) ?_
   intro A25 c25 hc25
   refine X.tellR [30, 51] (R' := [(30, RR 22 1 A25 (n_ + q2_.length) c25 ((L_ ++ Lm_).flatMap svC)), (51, RR 22 1 A10 q2_.length c10 (Lm_.flatMap svC))]) (congrArg (fun cs_ => (30, (RR 22 1 A25 (n_ + q2_.length) c25 cs_ : Row)) :: [(51, RR 22 1 A10 q2_.length c10 (Lm_.flatMap svC))]) (show L_.flatMap svC ++ (Lm_.flatMap svC) = (L_ ++ Lm_).flatMap svC by simp)) ?_
   obtain ⟨l25, hl25⟩ : ∃ z_, (L_ ++ Lm_) = z_ := ⟨_, rfl⟩
   rw [hl25]
   have hn25 : l25.length = n_ + q2_.length := by have h_ := congrArg List.length hl25; rw [List.length_append] at h_; (try simp only [List.length_nil] at h_); omega
   refine Rn 6 (Qo B25 32679 1) [.loop J5, .blk 0, Qs B25 511] ⟨153, [(1, VT d2_), (3, .own 3 0), (5, .own 5 0), (9, VL A3 q1_.length c3), (11, VL A25 (n_ + q2_.length) c25), (54, VL A3 q1_.length c3), (55, I6 (q1_.length : Int)), (56, I6 (i_ : Int)), (105, I6 (IntKind.i64.wrap ((i_ : Int) + 1)))], [(3, ⟨113, [I8 t_, I8 h.x1, I8 h.x2, I1 h.x3, I1 0, I8 h.x5, I8 h.x6, I8 h.x7, I8 h.x8, I8 h.x9, I8 h.y0, I8 h.y1, I8 h.y2]⟩), (5, ⟨55, [I8 w0, I8 w1, I8 w2, I8 w3]⟩)]⟩ ?_
   refine Kn 105 .i64 ((i_ + 1 : Nat) : Int) rfl (by rw [wi64 (by omega) (by omega)]; push_cast; rfl) ?_
   refine Rn 2 (.ex .normal) [.loop J5, .blk 0, Qs B25 511] ⟨153, [(1, VT d2_), (3, .own 3 0), (5, .own 5 0), (9, VL A3 q1_.length c3), (11, VL A25 (n_ + q2_.length) c25), (54, VL A3 q1_.length c3), (55, I6 (q1_.length : Int)), (56, I6 ((i_ + 1 : Nat) : Int))], [(3, ⟨113, [I8 t_, I8 h.x1, I8 h.x2, I1 h.x3, I1 0, I8 h.x5, I8 h.x6, I8 h.x7, I8 h.x8, I8 h.x9, I8 h.y0, I8 h.y1, I8 h.y2]⟩), (5, ⟨55, [I8 w0, I8 w1, I8 w2, I8 w3]⟩)]⟩ ?_
   refine X.tellR [30] (R' := [(30, RR 22 1 A25 (n_ + q2_.length) c25 (l25.flatMap svC))]) rfl ?_
   have hTn_ : Tl G10 ((uptoP (frI h 0) P1_ (28 + w1) kk_ (i_ + 1)).map encP) l25 := by
    rw [uptoP_succ, List.map_append, grp_no hwy_, hx_, hP2_, hq2_, ← hl25]
    exact Tl.app hTm_ hTp_
   exact X.again (hJ5 _ _ _ _ ⟨A25, c25, (n_ + q2_.length), l25, t_, (i_ + 1), rfl, rfl, (hG5.trans hG10), ⟨by omega, hn25, (by rw [tosT_same hwy_]; exact ht_), hTn_⟩, rfl⟩ (by omega))
 ·
  replace h6 : ¬ ((i_ : Int) < ((q1_.length : Nat) : Int)) := of_decide_eq_false h6
  have hie_ : i_ = q1_.length := by omega
  rw [hie_] at ht_ hTp_
  subst hLn_
  rw [tosT_all (by omega)] at ht_
  obtain ⟨Q_, hQ_⟩ : ∃ z_, uptoP (frI h 0) P1_ (28 + w1) kk_ q1_.length = z_ := ⟨_, rfl⟩
  rw [hQ_] at hTp_ hch_ hcat_ hqp_ hmk_ hl0_ hl38_
  have hnQ_ := hTp_.len
  rw [List.length_map] at hnQ_
  obtain ⟨k3_, hk3_⟩ : ∃ z_, w3.toNat % L_.length = z_ := ⟨_, rfl⟩
  have hk3l_ : k3_ < L_.length := by rw [← hk3_]; exact Nat.mod_lt _ (by omega)
  refine X.tellR [30] (R' := [(30, RR 22 1 B_ L_.length c_ (L_.flatMap svC))]) rfl ?_
  refine X.capLe (i := 30) (q := (RR 22 1 B_ L_.length c_ (L_.flatMap svC))) (n := L_.length) (c := c_) (A := B_) rfl rfl ?_
  intro hle26 hmx26
  refine X.freezeT (d := svD) (i := 30) (n := L_.length) (c := c_) (A := B_) (L_) rfl (by decide) (fun _ hl_ => svD_reps) (by kernel_rfl) (fun _ h => h) ?_
  intro G26 hG26 hr26
  replace hr2 := hr2.mono hG26.le
  replace hr4 := hr4.mono hG26.le
  replace hTp_ := hTp_.mono hG26.le
  refine Rn 11 (Qo B25 1022 3) [Qs B25 1023] ⟨153, [(1, VT d2_), (3, .own 3 0), (11, VL B_ L_.length c_), (108, I6 (IntKind.i64.wrap w3))], [(3, ⟨113, [I8 t_, I8 h.x1, I8 h.x2, I1 h.x3, I1 0, I8 h.x5, I8 h.x6, I8 h.x7, I8 h.x8, I8 h.x9, I8 h.y0, I8 h.y1, I8 h.y2]⟩)]⟩ ?_
  refine Kn 108 .i64 w3 rfl (wi64 (by omega) (by omega)) ?_
  refine Rn 2 (Qo B25 1022 5) [Qs B25 1023] ⟨153, [(1, VT d2_), (3, .own 3 0), (11, VL B_ L_.length c_), (108, I6 w3), (110, I6 (L_.length : Int))], [(3, ⟨113, [I8 t_, I8 h.x1, I8 h.x2, I1 h.x3, I1 0, I8 h.x5, I8 h.x6, I8 h.x7, I8 h.x8, I8 h.x9, I8 h.y0, I8 h.y1, I8 h.y2]⟩)]⟩ ?_
  refine X.rem (t := 3) (t' := 3) (x := .tmp 108) (y := .tmp 110) (kd := .i64) (a := w3) (b := (L_.length : Int)) (by kernel_rfl) (by kernel_rfl) (by kernel_rfl) (by kernel_rfl) (by omega) ?_
  refine Kn 111 .i64 (k3_ : Int) rfl (by rw [tmod_nat (by omega), hk3_]) ?_
  refine Rn 4 (Qc B25 2046) [Qs B25 2047] ⟨153, [(1, VT d2_), (3, .own 3 0), (11, VL B_ L_.length c_), (18, I6 (k3_ : Int))], [(3, ⟨113, [I8 t_, I8 h.x1, I8 h.x2, I1 h.x3, I1 0, I8 h.x5, I8 h.x6, I8 h.x7, I8 h.x8, I8 h.x9, I8 h.y0, I8 h.y1, I8 h.y2]⟩)]⟩ ?_
  have hr2_d27 := hr2
  have hr4_d27 := hr4
  have hTp__d27 := hTp_
  have hr26_d27 := hr26
  refine Og 22 B25 2046 10 [] [] [] trivial (by simp) (fun ρ0 => ?_)
  refine Tk 1 10 2 B25 2046 (VL B_ L_.length c_) QOk.ctxG ?_
  refine Tk 2 10 6 B25 2046 (I6 (k3_ : Int)) QOk.ctxG ?_
  have hlo28 : ((k3_ : Int)).toNat ≤ L_.length := by omega
  have hhi28 : L_.length ≤ L_.length := by omega
  refine XD.cut (i := 3) (l' := (lb 10 14)) (o := (oA B25 (pa 2046) 3)) (t := 121) (e := 22) (sz := 1) (n := L_.length) (c := c_) (A := B_) (x := .tmp 113) (l0 := (some (.tmp 114))) (h := none) (lv := (some (N6 (k3_ : Int)))) (hv := none) (((k3_ : Int)).toNat) L_.length QOk.ctxG (by kernel_rfl) (by kernel_rfl) (by kernel_rfl) (by kernel_rfl) (by kernel_rfl) (by kernel_rfl) (by kernel_rfl) (by kernel_rfl) (by kernel_rfl) (⟨_, _, rfl, by omega, rfl⟩) (rfl) hlo28 (Nat.le_trans hhi28 hle26) (by kernel_rfl) ?_
  obtain ⟨A28, hA28⟩ : ∃ A_, cutA B_ c_ (((k3_ : Int)).toNat) 1 = A_ := ⟨_, rfl⟩
  obtain ⟨ys28, hys28⟩ : ∃ l_, (L_.take L_.length).drop (((k3_ : Int)).toNat) = l_ := ⟨_, rfl⟩
  have hr28 : rowAt svD G26 (cutA B_ c_ (((k3_ : Int)).toNat) 1) ((L_.take L_.length).drop (((k3_ : Int)).toNat)) := rowAt_cut hr26 hlo28 hhi28 hle26
  have hl28 : L_.length - (((k3_ : Int)).toNat) = ys28.length := by rw [← hys28, List.length_drop, List.length_take]; omega
  have hc28 : ys28.length ≤ c_ - (((k3_ : Int)).toNat) := by omega
  have hm28 : c_ - (((k3_ : Int)).toNat) ≤ maxLen := Nat.le_trans (Nat.sub_le _ _) hmx26
  rw [hys28, show cutA B_ c_ (((k3_ : Int)).toNat) _ = A28 from hA28] at hr28
  rw [hA28, hl28]
  refine Tk 5 10 46 B25 2046 (VL B_ L_.length c_) QOk.ctxG ?_
  refine Tk 6 10 110 B25 2046 (I6 (k3_ : Int)) QOk.ctxG ?_
  have hlo29 : 0 ≤ ((k3_ : Int)).toNat := by omega
  have hhi29 : ((k3_ : Int)).toNat ≤ L_.length := by omega
  refine XD.cut (i := 7) (l' := (lb 10 238)) (o := (oA B25 (pa 2046) 7)) (t := 121) (e := 22) (sz := 1) (n := L_.length) (c := c_) (A := B_) (x := .tmp 117) (l0 := none) (h := (some (.tmp 118))) (lv := none) (hv := (some (N6 (k3_ : Int)))) 0 (((k3_ : Int)).toNat) QOk.ctxG (by kernel_rfl) (by kernel_rfl) (by kernel_rfl) (by kernel_rfl) (by kernel_rfl) (by kernel_rfl) (by kernel_rfl) (by kernel_rfl) (by kernel_rfl) (rfl) (⟨_, _, rfl, by omega, rfl⟩) hlo29 (Nat.le_trans hhi29 hle26) (by kernel_rfl) ?_
  obtain ⟨A29, hA29⟩ : ∃ A_, cutA B_ c_ 0 1 = A_ := ⟨_, rfl⟩
  obtain ⟨ys29, hys29⟩ : ∃ l_, (L_.take (((k3_ : Int)).toNat)).drop 0 = l_ := ⟨_, rfl⟩
  have hr29 : rowAt svD G26 (cutA B_ c_ 0 1) ((L_.take (((k3_ : Int)).toNat)).drop 0) := rowAt_cut hr26 hlo29 hhi29 hle26
  have hl29 : (((k3_ : Int)).toNat) - 0 = ys29.length := by rw [← hys29, List.length_drop, List.length_take]; omega
  have hc29 : ys29.length ≤ c_ - 0 := by omega
  have hm29 : c_ - 0 ≤ maxLen := Nat.le_trans (Nat.sub_le _ _) hmx26
  rw [hys29, show cutA B_ c_ 0 _ = A29 from hA29] at hr29
  rw [hA29, hl29]
  refine Dn ⟨153, [(1, VT d2_), (3, .own 3 0), (11, VL B_ L_.length c_), (115, VL A28 ys28.length (c_ - (((k3_ : Int)).toNat))), (119, VL A29 ys29.length (c_ - 0))], [(3, ⟨113, [I8 t_, I8 h.x1, I8 h.x2, I1 h.x3, I1 0, I8 h.x5, I8 h.x6, I8 h.x7, I8 h.x8, I8 h.x9, I8 h.y0, I8 h.y1, I8 h.y2]⟩)]⟩ trivial ?_
  refine Do 0 10 239 B25 2046 ?_
  refine Lt 112 22 1 0 [] ?_
  intro A30
  refine X.back ⟨trivial, Le.refl _, rfl, ?_⟩
  refine Dn ⟨153, [(1, VT d2_), (3, .own 3 0), (11, VL B_ L_.length c_), (112, VL A30 0 0), (115, VL A28 ys28.length (c_ - (((k3_ : Int)).toNat))), (119, VL A29 ys29.length (c_ - 0))], [(3, ⟨113, [I8 t_, I8 h.x1, I8 h.x2, I1 h.x3, I1 0, I8 h.x5, I8 h.x6, I8 h.x7, I8 h.x8, I8 h.x9, I8 h.y0, I8 h.y1, I8 h.y2]⟩)]⟩ trivial ?_
  refine Do 4 10 255 B25 2046 ?_
  refine Aw 112 (RR 22 1 A30 0 0 []) 121 24 (.slice none 0 0) (.tmp 112) (.tmp 115) 0 0 ys28.length (c_ - (((k3_ : Int)).toNat)) A30 A28 (ys28.flatMap svC) (.inl rfl) (svs_len _) (at_svs [(112, RR 22 1 A30 0 0 [])] hr28) (fun _ _ e => rowAt.none hr28 e) ones_sv (by omega) ?_
  intro A31 c31 hc31
  refine X.tellR [112] (R' := [(112, RR 22 1 A31 (0 + ys28.length) c31 (([] ++ ys28).flatMap svC))]) (congrArg (fun cs_ => (112, (RR 22 1 A31 (0 + ys28.length) c31 cs_ : Row)) :: []) (show [] ++ (ys28.flatMap svC) = ([] ++ ys28).flatMap svC by simp)) ?_
  obtain ⟨l31, hl31⟩ : ∃ z_, ([] ++ ys28) = z_ := ⟨_, rfl⟩
  rw [hl31]
  have hn31 : l31.length = 0 + ys28.length := by have h_ := congrArg List.length hl31; rw [List.length_append] at h_; (try simp only [List.length_nil] at h_); omega
  refine X.back ⟨trivial, Le.refl _, rfl, ?_⟩
  refine Dn ⟨153, [(1, VT d2_), (3, .own 3 0), (11, VL B_ L_.length c_), (116, VL A31 (0 + ys28.length) c31), (119, VL A29 ys29.length (c_ - 0))], [(3, ⟨113, [I8 t_, I8 h.x1, I8 h.x2, I1 h.x3, I1 0, I8 h.x5, I8 h.x6, I8 h.x7, I8 h.x8, I8 h.x9, I8 h.y0, I8 h.y1, I8 h.y2]⟩)]⟩ trivial ?_
  refine Do 8 10 511 B25 2046 ?_
  refine Aw 112 (RR 22 1 A31 (0 + ys28.length) c31 (l31.flatMap svC)) 121 24 (.slice none 0 0) (.tmp 116) (.tmp 119) (0 + ys28.length) c31 ys29.length (c_ - 0) A31 A29 (ys29.flatMap svC) (.inl rfl) (svs_len _) (at_svs [(112, RR 22 1 A31 (0 + ys28.length) c31 (l31.flatMap svC))] hr29) (fun _ _ e => rowAt.none hr29 e) ones_sv (by omega) ?_
  intro A32 c32 hc32
  refine X.tellR [112] (R' := [(112, RR 22 1 A32 (0 + ys28.length + ys29.length) c32 ((l31 ++ ys29).flatMap svC))]) (congrArg (fun cs_ => (112, (RR 22 1 A32 (0 + ys28.length + ys29.length) c32 cs_ : Row)) :: []) (show l31.flatMap svC ++ (ys29.flatMap svC) = (l31 ++ ys29).flatMap svC by simp)) ?_
  obtain ⟨l32, hl32⟩ : ∃ z_, (l31 ++ ys29) = z_ := ⟨_, rfl⟩
  rw [hl32]
  have hn32 : l32.length = 0 + ys28.length + ys29.length := by have h_ := congrArg List.length hl32; rw [List.length_append] at h_; (try simp only [List.length_nil] at h_); omega
  refine X.back ⟨trivial, Le.refl _, rfl, ?_⟩
  refine Ts [9] 10 1023 0 1 QOk.ctxG ?_
  refine XD.done (by kernel_rfl) ?_
  refine Rn 4 (Qo B25 4094 1) [Qs B25 4095] ⟨153, [(1, VT d2_), (3, .own 3 0), (11, VL B_ L_.length c_), (122, VL A32 (0 + ys28.length + ys29.length) c32)], [(3, ⟨113, [I8 t_, I8 h.x1, I8 h.x2, I1 h.x3, I1 0, I8 h.x5, I8 h.x6, I8 h.x7, I8 h.x8, I8 h.x9, I8 h.y0, I8 h.y1, I8 h.y2]⟩)]⟩ ?_
  obtain ⟨Q3_, hQ3_⟩ : ∃ z_, Q_.drop k3_ ++ Q_.take k3_ = z_ := ⟨_, rfl⟩
  have hT3_ : Tl G26 (Q3_.map encP) l32 := by
   rw [← hQ3_, ← turn_map, ← hl32, ← hl31, ← hys28, ← hys29]
   have h1_ := (hTp_.take L_.length).drop k3_
   have h2_ := (hTp_.take k3_).drop 0
   rw [List.take_of_length_le (l := Q_.map encP) (by rw [List.length_map]; omega)] at h1_
   rw [List.drop_zero] at h2_
   exact Tl.app h2_ h1_
  have hper_ : Q3_.Perm Q_ := by rw [← hQ3_]; exact turn_perm _ _
  obtain ⟨hrd_, hjn_⟩ := join_back (H := (frI h 0)) hH_ rfl hch_ hcat_ hqp_ hmk_ hper_
  have hone_ : ∀ l2 : List Pk, l2.Perm (readI [] (Q3_.map encP)).1 → SortedP plI l2 → l2 = sortI plI (readI [] (Q3_.map encP)).1 := by
   rw [hrd_]
   intro l2_ hp_ hs_
   rw [one_sorted hch_ hper_ hp_ hs_, one_sorted hch_ hper_ (sortI_perm _) (sortI_sorted _)]
  have hn3_ : (Q3_.map encP).length ≤ 39 := by rw [List.length_map, hper_.length_eq]; omega
  obtain ⟨q3_, hq3_⟩ : ∃ z_, Q3_.map encP = z_ := ⟨_, rfl⟩
  rw [hq3_] at hT3_ hjn_ hone_ hn3_
  have hn3l_ := hT3_.len
  rw [show 0 + ys28.length + ys29.length = q3_.length by omega]
  refine X.tellR [112] (R' := [(112, RR 22 1 A32 q3_.length c32 (l32.flatMap svC))]) rfl ?_
  refine X.capLe (i := 112) (q := (RR 22 1 A32 q3_.length c32 (l32.flatMap svC))) (n := q3_.length) (c := c32) (A := A32) rfl rfl ?_
  intro hle34 hmx34
  refine X.freezeT (d := D.slice (D.int .u8)) (i := 112) (n := q3_.length) (c := c32) (A := A32) (q3_) rfl (by decide) (fun _ hl_ => (hT3_.mono hl_).reps) (by kernel_rfl) (fun _ h => h) ?_
  intro G34 hG34 hr34
  replace hr2 := hr2.mono hG34.le
  replace hr4 := hr4.mono hG34.le
  replace hTp_ := hTp_.mono hG34.le
  replace hr26 := hr26.mono hG34.le
  replace hr28 := hr28.mono hG34.le
  replace hr29 := hr29.mono hG34.le
  replace hT3_ := hT3_.mono hG34.le
  refine Cg 83 [.slice A32 q3_.length c32] 52 (Join_ok A32 c32 q3_ _ hr34 hle34 hmx34 (.inr ⟨hn3_, hone_⟩)) ?_
  rintro v33 G33 rows33 hG33 ⟨A33, c33, rfl, rfl⟩
  replace hr2 := hr2.mono hG33.le
  replace hr4 := hr4.mono hG33.le
  replace hTp_ := hTp_.mono hG33.le
  replace hr26 := hr26.mono hG33.le
  replace hr28 := hr28.mono hG33.le
  replace hr29 := hr29.mono hG33.le
  replace hT3_ := hT3_.mono hG33.le
  replace hr34 := hr34.mono hG33.le
  refine X.asR (R' := [(52, RR 5 1 A33 ((joinI q3_).1.length) c33 (((joinI q3_).1).map (Value.int .u8)))]) rfl ?_
  refine X.tellR [52] (R' := [(52, RR 5 1 A33 ((joinI q3_).1.length) c33 (((joinI q3_).1).map (Value.int .u8)))]) rfl ?_
  refine X.capLe (i := 52) (q := (RR 5 1 A33 ((joinI q3_).1.length) c33 (((joinI q3_).1).map (Value.int .u8)))) (n := (joinI q3_).1.length) (c := c33) (A := A33) rfl rfl ?_
  intro hle35 hmx35
  refine X.freezeHd (i := 52) (n := (joinI q3_).1.length) (c := c33) (A := A33) (kd := .u8) ((joinI q3_).1) rfl rfl (fun x_ hx_ => by have h_ := joinI_bytes (parts_bytes hr34) x_ hx_; simp only [IntKind.lo, IntKind.hi]; omega) (by kernel_rfl) (fun _ h => h) ?_
  intro G35 hG35 hr35
  replace hr2 := hr2.mono hG35.le
  replace hr4 := hr4.mono hG35.le
  replace hTp_ := hTp_.mono hG35.le
  replace hr26 := hr26.mono hG35.le
  replace hr28 := hr28.mono hG35.le
  replace hr29 := hr29.mono hG35.le
  replace hT3_ := hT3_.mono hG35.le
  replace hr34 := hr34.mono hG35.le
  refine Rn 11 (Qo B25 8190 2) [Qs B25 8191] ⟨153, [(11, VL B_ L_.length c_), (20, VL A33 ((joinI q3_).1.length) c33), (21, I6 ((joinI q3_).2)), (127, .v (.agg #[N8 t_, N8 h.x1, N8 h.x2, N1 h.x3, N1 0, N8 h.x5, N8 h.x6, N8 h.x7, N8 h.x8, N8 h.x9, N8 h.y0, N8 h.y1, N8 h.y2])), (128, VT d2_)], []⟩ ?_
  refine Cg 78 [.agg #[N8 t_, N8 h.x1, N8 h.x2, N1 h.x3, N1 0, N8 h.x5, N8 h.x6, N8 h.x7, N8 h.x8, N8 h.x9, N8 h.y0, N8 h.y1, N8 h.y2], .string d2_] 749 (EncI_ok (tosI (frI h 0) t_) d2_ _ (tosI_ok hH_ (by rw [ht_]; unfold toB; have := hH_.h0; split <;> (try unfold putT) <;> omega)) (by simp only [maxLen]; omega)) ?_
  rintro v36 G36 rows36 hG36 ⟨A36, c36, rfl, rfl⟩
  replace hr2 := hr2.mono hG36.le
  replace hr4 := hr4.mono hG36.le
  replace hTp_ := hTp_.mono hG36.le
  replace hr26 := hr26.mono hG36.le
  replace hr28 := hr28.mono hG36.le
  replace hr29 := hr29.mono hG36.le
  replace hT3_ := hT3_.mono hG36.le
  replace hr34 := hr34.mono hG36.le
  replace hr35 := hr35.mono hG36.le
  refine X.asR (R' := [(749, RR 5 1 A36 ((encI (tosI (frI h 0) t_) d2_).1.length) c36 (((encI (tosI (frI h 0) t_) d2_).1).map (Value.int .u8)))]) rfl ?_
  rw [encI_two (h := tosI (frI h 0) t_) (d := d2_) hd3_ (by show (0 : Int) < 32768; decide)]
  refine X.tellR [749] (R' := [(749, RR 5 1 A36 ((encI (tosI (frI h 0) t_) d2_).1.length) c36 (((encI (tosI (frI h 0) t_) d2_).1).map (Value.int .u8)))]) rfl ?_
  refine X.capLe (i := 749) (q := (RR 5 1 A36 ((encI (tosI (frI h 0) t_) d2_).1.length) c36 (((encI (tosI (frI h 0) t_) d2_).1).map (Value.int .u8)))) (n := (encI (tosI (frI h 0) t_) d2_).1.length) (c := c36) (A := A36) rfl rfl ?_
  intro hle37 hmx37
  refine X.freezeHd (i := 749) (n := (encI (tosI (frI h 0) t_) d2_).1.length) (c := c36) (A := A36) (kd := .u8) ((encI (tosI (frI h 0) t_) d2_).1) rfl rfl (fun x_ hx_ => by have h_ := encI_bytes (tosI_ok hH_ (by rw [ht_]; unfold toB; have := hH_.h0; split <;> (try unfold putT) <;> omega)) _ x_ hx_; simp only [IntKind.lo, IntKind.hi]; omega) (by kernel_rfl) (fun _ h => h) ?_
  intro G37 hG37 hr37
  replace hr2 := hr2.mono hG37.le
  replace hr4 := hr4.mono hG37.le
  replace hTp_ := hTp_.mono hG37.le
  replace hr26 := hr26.mono hG37.le
  replace hr28 := hr28.mono hG37.le
  replace hr29 := hr29.mono hG37.le
  replace hT3_ := hT3_.mono hG37.le
  replace hr34 := hr34.mono hG37.le
  replace hr35 := hr35.mono hG37.le
  refine Rn 13 (Qo B25 32764 3) [Qs B25 32765, Qs B25 16383] ⟨153, [(11, VL B_ L_.length c_), (20, VL A33 ((joinI q3_).1.length) c33), (22, VL A36 ((encI (tosI (frI h 0) t_) d2_).1.length) c36), (134, VB (((joinI q3_).2) != 0))], []⟩ ?_
  refine X.isFalse 134 rfl (by rw [hjn_, encI_two hd3_ (by show (0 : Int) < 32768; decide)]; rfl) ?_
  refine Rn 1 (Qo B25 32764 4) [Qs B25 32765, Qs B25 16383] ⟨153, [(11, VL B_ L_.length c_), (22, VL A36 ((encI (tosI (frI h 0) t_) d2_).1.length) c36), (134, VB false), (135, VL A33 ((joinI q3_).1.length) c33)], []⟩ ?_
  refine X.toStrW (src := 22) (dst := 9) (e := 5) (n := (joinI q3_).1.length) (c := c33) (A := A33) (x := .tmp 135) ((joinI q3_).1) (by kernel_rfl) (by kernel_rfl) (by kernel_rfl) (by kernel_rfl) (by kernel_rfl) rfl (at_ints [] hr35) (fun w hw e => rowAt.none hr35 e) (by kernel_rfl) ?_
  refine Rn 1 (Qo B25 32764 6) [Qs B25 32765, Qs B25 16383] ⟨153, [(11, VL B_ L_.length c_), (134, VB false), (136, VT (strOf ((joinI q3_).1))), (137, VL A36 ((encI (tosI (frI h 0) t_) d2_).1.length) c36)], []⟩ ?_
  refine X.toStrW (src := 22) (dst := 9) (e := 5) (n := (encI (tosI (frI h 0) t_) d2_).1.length) (c := c36) (A := A36) (x := .tmp 137) ((encI (tosI (frI h 0) t_) d2_).1) (by kernel_rfl) (by kernel_rfl) (by kernel_rfl) (by kernel_rfl) (by kernel_rfl) rfl (at_ints [] hr37) (fun w hw e => rowAt.none hr37 e) (by kernel_rfl) ?_
  refine Rn 4 (Qc B25 32765) [Qs B25 16383] ⟨153, [(11, VL B_ L_.length c_), (140, VB (!((strOf ((joinI q3_).1)).toList == (strOf ((encI (tosI (frI h 0) t_) d2_).1)).toList)))], []⟩ ?_
  refine X.isFalse 140 rfl (by rw [hjn_, ht_]; simp) ?_
  refine Rn 11 (Qc B25 65533) [Qs B25 32767] ⟨153, [(11, VL B_ L_.length c_), (143, VB (decide ((L_.length : Int) > 1)))], []⟩ ?_
  refine X.split 143 rfl (fun h38 => ?_) (fun h38 => ?_)
  ·
   replace h38 : ((L_.length : Nat) : Int) > 1 := of_decide_eq_true h38
   refine Rn 4 (Qo B25 262132 1) [Qs B25 262133, Qs B25 32767] ⟨153, [(145, VL B_ L_.length c_)], []⟩ ?_
   have hlo39 : 1 ≤ L_.length := by omega
   have hhi39 : L_.length ≤ L_.length := by omega
   refine X.cut (t := 121) (e := 22) (sz := 1) (n := L_.length) (c := c_) (A := B_) (x := .tmp 145) (l := (some (.const (N6 1)))) (h := none) (lv := (some (N6 1))) (hv := none) 1 L_.length (by kernel_rfl) (by kernel_rfl) (by kernel_rfl) (by kernel_rfl) (by kernel_rfl) (by kernel_rfl) (by kernel_rfl) (⟨_, _, rfl, by omega, rfl⟩) (rfl) hlo39 (Nat.le_trans hhi39 hle26) ?_
   obtain ⟨A39, hA39⟩ : ∃ A_, cutA B_ c_ 1 1 = A_ := ⟨_, rfl⟩
   obtain ⟨ys39, hys39⟩ : ∃ l_, (L_.take L_.length).drop 1 = l_ := ⟨_, rfl⟩
   have hr39 : rowAt svD G37 (cutA B_ c_ 1 1) ((L_.take L_.length).drop 1) := rowAt_cut hr26 hlo39 hhi39 hle26
   have hl39 : L_.length - 1 = ys39.length := by rw [← hys39, List.length_drop, List.length_take]; omega
   have hc39 : ys39.length ≤ c_ - 1 := by omega
   have hm39 : c_ - 1 ≤ maxLen := Nat.le_trans (Nat.sub_le _ _) hmx26
   rw [hys39, show cutA B_ c_ 1 _ = A39 from hA39] at hr39
   rw [hA39, hl39]
   refine Rn 0 (Qo B25 262132 2) [Qs B25 262133, Qs B25 32767] ⟨153, [(146, VL A39 ys39.length (c_ - 1))], []⟩ ?_
   obtain ⟨hrd4_, hj4_, hj5_, hone4_⟩ := join_less (H := (frI h 0)) hH_ hch_ hqp_ (by omega)
   have hT4_ : Tl G37 ((Q_.drop 1).map encP) ys39 := by
    rw [List.map_drop, ← hys39]
    have h_ := (hTp_.take L_.length).drop 1
    rw [List.take_of_length_le (l := Q_.map encP) (by rw [List.length_map]; omega)] at h_
    exact h_
   obtain ⟨q4_, hq4_⟩ : ∃ z_, (Q_.drop 1).map encP = z_ := ⟨_, rfl⟩
   have hn4_ : q4_.length ≤ 39 := by rw [← hq4_, List.length_map, List.length_drop]; omega
   rw [hq4_] at hrd4_ hT4_ hj4_ hj5_
   have hone5_ : ∀ l2 : List Pk, l2.Perm (readI [] q4_).1 → SortedP plI l2 → l2 = sortI plI (readI [] q4_).1 := by rw [hrd4_]; exact hone4_
   have hn4l_ := hT4_.len
   rw [hn4l_]
   rw [hn4l_] at hc39
   refine Cg 83 [.slice A39 q4_.length (c_ - 1)] 53 (Join_ok A39 (c_ - 1) q4_ _ (hT4_.row hr39) hc39 hm39 (.inr ⟨hn4_, hone5_⟩)) ?_
   rintro v40 G40 rows40 hG40 ⟨A40, c40, rfl, rfl⟩
   replace hr2 := hr2.mono hG40.le
   replace hr4 := hr4.mono hG40.le
   replace hTp_ := hTp_.mono hG40.le
   replace hr26 := hr26.mono hG40.le
   replace hr28 := hr28.mono hG40.le
   replace hr29 := hr29.mono hG40.le
   replace hT3_ := hT3_.mono hG40.le
   replace hr34 := hr34.mono hG40.le
   replace hr35 := hr35.mono hG40.le
   replace hr37 := hr37.mono hG40.le
   replace hr39 := hr39.mono hG40.le
   replace hT4_ := hT4_.mono hG40.le
   refine X.asR (R' := [(53, RR 5 1 A40 ((joinI q4_).1.length) c40 (((joinI q4_).1).map (Value.int .u8)))]) rfl ?_
   refine X.tellR [53] (R' := [(53, RR 5 1 A40 ((joinI q4_).1.length) c40 (((joinI q4_).1).map (Value.int .u8)))]) rfl ?_
   refine X.capLe (i := 53) (q := (RR 5 1 A40 ((joinI q4_).1.length) c40 (((joinI q4_).1).map (Value.int .u8)))) (n := (joinI q4_).1.length) (c := c40) (A := A40) rfl rfl ?_
   intro hle41 hmx41
   refine X.freezeHd (i := 53) (n := (joinI q4_).1.length) (c := c40) (A := A40) (kd := .u8) ((joinI q4_).1) rfl rfl (fun x_ hx_ => by have h_ := joinI_bytes (parts_bytes (hT4_.row hr39)) x_ hx_; simp only [IntKind.lo, IntKind.hi]; omega) (by kernel_rfl) (fun _ h => h) ?_
   intro G41 hG41 hr41
   replace hr2 := hr2.mono hG41.le
   replace hr4 := hr4.mono hG41.le
   replace hTp_ := hTp_.mono hG41.le
   replace hr26 := hr26.mono hG41.le
   replace hr28 := hr28.mono hG41.le
   replace hr29 := hr29.mono hG41.le
   replace hT3_ := hT3_.mono hG41.le
   replace hr34 := hr34.mono hG41.le
   replace hr35 := hr35.mono hG41.le
   replace hr37 := hr37.mono hG41.le
   replace hr39 := hr39.mono hG41.le
   replace hT4_ := hT4_.mono hG41.le
   refine Rn 13 (Qc B25 524267) [Qs B25 32767] ⟨153, [(151, VB (((joinI q4_).2) == 0))], []⟩ ?_
   refine X.isFalse 151 rfl (by rw [hj4_]; rfl) ?_
   refine Rn 5 (Qo B25 65534 0) [Qs B25 65535] ⟨153, [], []⟩ ?_
   refine Cg 82 [] 0 (works46_ok _) ?_
   rintro v42 G42 rows42 hG42 ⟨rfl, rfl⟩
   replace hr2 := hr2.mono hG42.le
   replace hr4 := hr4.mono hG42.le
   replace hTp_ := hTp_.mono hG42.le
   replace hr26 := hr26.mono hG42.le
   replace hr28 := hr28.mono hG42.le
   replace hr29 := hr29.mono hG42.le
   replace hT3_ := hT3_.mono hG42.le
   replace hr34 := hr34.mono hG42.le
   replace hr35 := hr35.mono hG42.le
   replace hr37 := hr37.mono hG42.le
   replace hr39 := hr39.mono hG42.le
   replace hT4_ := hT4_.mono hG42.le
   replace hr41 := hr41.mono hG42.le
   refine Rn 4 (.ex .ret) [] ⟨153, [(6, VB true)], []⟩ ?_
   refine Dg (.inl rfl) [.bool true] [] rfl ((((((((((((((hG1.trans hG2).trans hG3).trans hG4).trans hG5).trans hG26).trans hG34).trans hG33).trans hG35).trans hG36).trans hG37).trans hG40).trans hG41).trans hG42)) ?_
   exact ⟨rfl, rfl⟩
  ·
   replace h38 : ¬ (((L_.length : Nat) : Int) > 1) := of_decide_eq_false h38
   refine Rn 5 (Qo B25 65534 0) [Qs B25 65535] ⟨153, [], []⟩ ?_
   refine Cg 82 [] 0 (works46_ok _) ?_
   rintro v43 G43 rows43 hG43 ⟨rfl, rfl⟩
   replace hr2 := hr2.mono hG43.le
   replace hr4 := hr4.mono hG43.le
   replace hTp_ := hTp_.mono hG43.le
   replace hr26 := hr26.mono hG43.le
   replace hr28 := hr28.mono hG43.le
   replace hr29 := hr29.mono hG43.le
   replace hT3_ := hT3_.mono hG43.le
   replace hr34 := hr34.mono hG43.le
   replace hr35 := hr35.mono hG43.le
   replace hr37 := hr37.mono hG43.le
   refine Rn 4 (.ex .ret) [] ⟨153, [(6, VB true)], []⟩ ?_
   refine Dg (.inl rfl) [.bool true] [] rfl ((((((((((((hG1.trans hG2).trans hG3).trans hG4).trans hG5).trans hG26).trans hG34).trans hG33).trans hG35).trans hG36).trans hG37).trans hG43)) ?_
   exact ⟨rfl, rfl⟩
end Go.Proofs.YtjgpdbkkpomhjaaX
