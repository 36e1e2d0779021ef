/- ip.Split. Walked; printed by a small program of this session. Conditions: none. -/
import Derived.Test.YtjgpdbkkpomhjaaProg
import Derived.KernelRfl
import Derived.Test.YtjgpdbkkpomhjaaYJ2
import Derived.Test.YtjgpdbkkpomhjaaYJ5
import Derived.Test.YtjgpdbkkpomhjaaYJB
namespace Go.Proofs.YtjgpdbkkpomhjaaX
open Go.RowKit
open Go.Proofs.YtjgpdbkkpomhjaaW.PrintLast
set_option linter.unusedVariables false
set_option linter.unusedSimpArgs false
set_option maxRecDepth 100000
/-- leat/ip.Split -/
noncomputable def B85 : Code := bodyOf Try.f85
set_option maxHeartbeats 4000000 in
theorem Split_ok (A : Option Addr) (c : Nat) (b : List Int) (G : Mem) (hb : rowAt (D.int .u8) G A b) (hle : b.length ≤ c) (hmx : c ≤ maxLen) (h : Ih) (d : ByteArray) (mtu : Int) (hdec : decI b = ((h, d), 0)) (hm : 28 ≤ mtu ∧ mtu ≤ 100000) (hw : h.x4 < 16384) (hp : h.x4 % 8192 + (d.size : Int) / 8 ≤ 8191) : CallsG Try.prog 85 [.slice A b.length c, .int .i64 mtu] G (fun G' v rows => ∃ A' c' cs, v = .tuple #[.slice A' (splS h d mtu).length c', .int .i64 0] ∧ rows = [⟨22, 1, .slice A' (splS h d mtu).length c', (splS h d mtu).length, cs⟩] ∧ repsD (D.slice (D.int .u8)) G' (splS h d mtu) cs) := by
 simp only [maxLen] at hmx
 have hdo_ := decI_ok (row_bytes hb)
 rw [hdec] at hdo_
 obtain ⟨hh, hz_, hz2_, hf_⟩ : h.ok ∧ d.size ≤ b.length ∧ d.size ≤ 65515 ∧ h.x4 < 32768 := hdo_
 have h4_ := hh.h4
 obtain ⟨m_, hms_⟩ : ∃ z_, mS mtu = z_ := ⟨_, rfl⟩
 have hm8_ : (m_ : Int) = (mtu - 20) / 8 * 8 := by rw [← hms_]; unfold mS; omega
 refine CallsG.enter Try.func85 rfl rfl ?_
 intro w
 refine Rn 9 (Qo B85 6 1) [Qs B85 7] ⟨115, [(1, I6 mtu), (4, VL none 0 0), (5, I6 0), (21, VL A b.length c)], []⟩ ?_
 refine Cg 80 [.slice A b.length c] 0 (DecI_ok A c b _ hb hle hmx) ?_
 rintro v1 G1 rows1 hG1 ⟨rfl, rfl⟩
 rw [hdec]
 replace hb := hb.mono hG1.le
 refine Rn 27 (Qc B85 231) [.blk 0, Qs B85 15] ⟨115, [(1, I6 mtu), (4, VL none 0 0), (5, I6 0), (6, .own 6 0), (7, VT d), (30, VB (decide (mtu < 28)))], [(6, ⟨113, [I8 h.x0, I8 h.x1, I8 h.x2, I1 h.x3, I1 h.x4, I8 h.x5, I8 h.x6, I8 h.x7, I8 h.x8, I8 h.x9, I8 h.y0, I8 h.y1, I8 h.y2]⟩)]⟩ ?_
 refine X.isFalse 30 rfl (decide_eq_false (by omega)) ?_
 refine Rn 6 (Qo B85 926 3) [Qs B85 927, .blk 0, Qs B85 15] ⟨115, [(1, I6 mtu), (4, VL none 0 0), (5, I6 0), (6, .own 6 0), (7, VT d), (36, I6 (IntKind.i64.wrap (20 + (d.size : Int))))], [(6, ⟨113, [I8 h.x0, I8 h.x1, I8 h.x2, I1 h.x3, I1 h.x4, I8 h.x5, I8 h.x6, I8 h.x7, I8 h.x8, I8 h.x9, I8 h.y0, I8 h.y1, I8 h.y2]⟩)]⟩ ?_
 refine Kn 36 .i64 (20 + (d.size : Int)) rfl (wi64 (by omega) (by omega)) ?_
 refine Rn 5 (Qc B85 927) [.blk 0, Qs B85 15] ⟨115, [(1, I6 mtu), (4, VL none 0 0), (5, I6 0), (6, .own 6 0), (7, VT d), (33, VB (decide (20 + (d.size : Int) ≤ mtu)))], [(6, ⟨113, [I8 h.x0, I8 h.x1, I8 h.x2, I1 h.x3, I1 h.x4, I8 h.x5, I8 h.x6, I8 h.x7, I8 h.x8, I8 h.x9, I8 h.y0, I8 h.y1, I8 h.y2]⟩)]⟩ ?_
 refine X.split 33 rfl (fun h2 => ?_) (fun h2 => ?_)
 ·
  replace h2 : 20 + (d.size : Int) ≤ mtu := of_decide_eq_true h2
  refine Rn 5 (Qo B85 3708 2) [Qs B85 3709, .blk 0, Qs B85 15] ⟨115, [(1, I6 mtu), (4, VL none 0 0), (5, I6 0), (6, .own 6 0), (7, VT d), (40, .v (.agg #[N8 h.x0, N8 h.x1, N8 h.x2, N1 h.x3, N1 h.x4, N8 h.x5, N8 h.x6, N8 h.x7, N8 h.x8, N8 h.x9, N8 h.y0, N8 h.y1, N8 h.y2])), (41, VT d)], [(6, ⟨113, [I8 h.x0, I8 h.x1, I8 h.x2, I1 h.x3, I1 h.x4, I8 h.x5, I8 h.x6, I8 h.x7, I8 h.x8, I8 h.x9, I8 h.y0, I8 h.y1, I8 h.y2]⟩)]⟩ ?_
  refine Cg 78 [.agg #[N8 h.x0, N8 h.x1, N8 h.x2, N1 h.x3, N1 h.x4, N8 h.x5, N8 h.x6, N8 h.x7, N8 h.x8, N8 h.x9, N8 h.y0, N8 h.y1, N8 h.y2], .string d] 662 (EncI_ok h d _ hh (by simp only [maxLen]; omega)) ?_
  rintro v3 G3 rows3 hG3 ⟨A3, c3, rfl, rfl⟩
  replace hb := hb.mono hG3.le
  refine X.asR (R' := [(662, RR 5 1 A3 ((encI h d).1.length) c3 (((encI h d).1).map (Value.int .u8)))]) rfl ?_
  refine Rn 10 (Qo B85 7418 1) [Qs B85 7419, .blk 0, Qs B85 15] ⟨115, [(1, I6 mtu), (4, VL none 0 0), (5, I6 0), (6, .own 6 0), (7, VT d), (45, VL A3 ((encI h d).1.length) c3)], [(6, ⟨113, [I8 h.x0, I8 h.x1, I8 h.x2, I1 h.x3, I1 h.x4, I8 h.x5, I8 h.x6, I8 h.x7, I8 h.x8, I8 h.x9, I8 h.y0, I8 h.y1, I8 h.y2]⟩)]⟩ ?_
  refine X.tellR [662] (R' := [(662, RR 5 1 A3 ((encI h d).1.length) c3 (((encI h d).1).map (Value.int .u8)))]) rfl ?_
  refine X.capLe (i := 662) (q := (RR 5 1 A3 ((encI h d).1.length) c3 (((encI h d).1).map (Value.int .u8)))) (n := (encI h d).1.length) (c := c3) (A := A3) rfl rfl ?_
  intro hle5 hmx5
  refine X.freezeHd (i := 662) (n := (encI h d).1.length) (c := c3) (A := A3) (kd := .u8) ((encI h d).1) rfl rfl (fun x_ hx_ => by have h_ := encI_bytes hh _ x_ hx_; simp only [IntKind.lo, IntKind.hi]; omega) (by kernel_rfl) (fun _ h => h) ?_
  intro G5 hG5 hr5
  replace hb := hb.mono hG5.le
  refine Lt 46 22 1 1 [.slice A3 ((encI h d).1.length) c3] ?_
  intro A6
  refine Rn 7 (.ex .ret) [] ⟨115, [(4, VL A6 1 1), (5, I6 0)], []⟩ ?_
  refine Dg (.inl rfl) [.slice A6 1 1, N6 0] [46] rfl (((hG1.trans hG3).trans hG5)) ?_
  have hS_ : splS h d mtu = [(encI h d).1] := if_pos (by omega)
  rw [hS_]
  exact ⟨_, _, _, rfl, rfl, repsD.single (rep_sliceN rfl hle5 hmx5 hr5)⟩
 ·
  replace h2 : ¬ (20 + (d.size : Int) ≤ mtu) := of_decide_eq_false h2
  refine Rn 10 (Qc B85 3711) [.blk 0, Qs B85 15] ⟨115, [(1, I6 mtu), (4, VL none 0 0), (5, I6 0), (6, .own 6 0), (7, VT d), (47, VB ((band .u16 h.x4 16384) != 0))], [(6, ⟨113, [I8 h.x0, I8 h.x1, I8 h.x2, I1 h.x3, I1 h.x4, I8 h.x5, I8 h.x6, I8 h.x7, I8 h.x8, I8 h.x9, I8 h.y0, I8 h.y1, I8 h.y2]⟩)]⟩ ?_
  refine X.isFalse 47 rfl (by rw [bit_whole (by omega)]; simp; omega) ?_
  refine Rn 8 (Qo B85 30 2) [Qs B85 31] ⟨115, [(4, VL none 0 0), (5, I6 0), (6, .own 6 0), (7, VT d), (53, I6 (IntKind.i64.wrap (mtu - 20)))], [(6, ⟨113, [I8 h.x0, I8 h.x1, I8 h.x2, I1 h.x3, I1 h.x4, I8 h.x5, I8 h.x6, I8 h.x7, I8 h.x8, I8 h.x9, I8 h.y0, I8 h.y1, I8 h.y2]⟩)]⟩ ?_
  refine Kn 53 .i64 (mtu - 20) rfl (wi64 (by omega) (by omega)) ?_
  refine Rn 1 (Qo B85 30 3) [Qs B85 31] ⟨115, [(4, VL none 0 0), (5, I6 0), (6, .own 6 0), (7, VT d), (54, I6 (IntKind.i64.wrap (Int.tdiv (mtu - 20) 8)))], [(6, ⟨113, [I8 h.x0, I8 h.x1, I8 h.x2, I1 h.x3, I1 h.x4, I8 h.x5, I8 h.x6, I8 h.x7, I8 h.x8, I8 h.x9, I8 h.y0, I8 h.y1, I8 h.y2]⟩)]⟩ ?_
  refine Kn 54 .i64 ((mtu - 20) / 8) rfl (wdiv_i64 (by omega) (by omega) (by omega)) ?_
  refine Rn 1 (Qo B85 30 4) [Qs B85 31] ⟨115, [(4, VL none 0 0), (5, I6 0), (6, .own 6 0), (7, VT d), (55, I6 (IntKind.i64.wrap (((mtu - 20) / 8) * 8)))], [(6, ⟨113, [I8 h.x0, I8 h.x1, I8 h.x2, I1 h.x3, I1 h.x4, I8 h.x5, I8 h.x6, I8 h.x7, I8 h.x8, I8 h.x9, I8 h.y0, I8 h.y1, I8 h.y2]⟩)]⟩ ?_
  refine Kn 55 .i64 (m_ : Int) rfl (by rw [hm8_]; exact wi64 (by omega) (by omega)) ?_
  refine Rn 4 (Qc B85 62) [Qs B85 63] ⟨115, [(4, VL none 0 0), (5, I6 0), (6, .own 6 0), (7, VT d), (11, I6 (m_ : Int))], [(6, ⟨113, [I8 h.x0, I8 h.x1, I8 h.x2, I1 h.x3, I1 h.x4, I8 h.x5, I8 h.x6, I8 h.x7, I8 h.x8, I8 h.x9, I8 h.y0, I8 h.y1, I8 h.y2]⟩)]⟩ ?_
  have hb_d7 := hb
  refine Og 12 B85 62 9 [⟨some 6, 6, 113, [I8 h.x0, I8 h.x1, I8 h.x2, I1 h.x3, I1 h.x4, I8 h.x5, I8 h.x6, I8 h.x7, I8 h.x8, I8 h.x9, I8 h.y0, I8 h.y1, I8 h.y2]⟩] [] [] ⟨⟨fun _ h => (by cases h; rfl), rfl⟩, trivial⟩ (by intro p hp hn; simp only [List.mem_cons, List.not_mem_nil, or_false] at hp; rcases hp with rfl <;> first | (cases hn; done) | exact absurd _ (Nat.le_of_ble_eq_true rfl)) (fun ρ0 => ?_)
  refine Tk 0 9 1 B85 62 (.own 6 4) QOk.ctxG ?_
  refine Tk 1 9 3 B85 62 (I1 h.x4) QOk.ctxG ?_
  refine Tk 2 9 7 B85 62 (I1 (band .u16 h.x4 8191)) QOk.ctxG ?_
  refine Dk 58 .u16 (h.x4 % 8192) rfl (low13 (by omega)) ?_
  refine Tk 3 9 15 B85 62 (I6 (IntKind.i64.wrap (h.x4 % 8192))) QOk.ctxG ?_
  refine Dk 59 .i64 (h.x4 % 8192) rfl (wi64 (by omega) (by omega)) ?_
  refine Tk 4 9 31 B85 62 (.own 6 4) QOk.ctxG ?_
  refine Tk 5 9 63 B85 62 (I1 h.x4) QOk.ctxG ?_
  refine Tk 6 9 127 B85 62 (I1 (band .u16 h.x4 8192)) QOk.ctxG ?_
  refine Dk 62 .u16 (h.x4 / 8192 % 2 * 8192) rfl (bit_more (by omega)) ?_
  refine Ts [7, 8] 9 511 0 2 QOk.ctxG ?_
  refine XD.done (by kernel_rfl) ?_
  refine Rn 13 (Qc B85 1018) [.blk 1, Qs B85 255] ⟨115, [(4, VL none 0 0), (5, I6 0), (6, .own 6 0), (7, VT d), (11, I6 (m_ : Int)), (12, I6 (h.x4 % 8192)), (13, I1 (h.x4 / 8192 % 2 * 8192)), (14, VL none 0 0), (15, I6 0)], [(6, ⟨113, [I8 h.x0, I8 h.x1, I8 h.x2, I1 h.x3, I1 h.x4, I8 h.x5, I8 h.x6, I8 h.x7, I8 h.x8, I8 h.x9, I8 h.y0, I8 h.y1, I8 h.y2]⟩)]⟩ ?_
  refine X.nilRow 30 22 1 rfl ?_
  refine Rn 0 (Qc B85 1018) [.blk 1, Qs B85 255] ⟨115, [(6, .own 6 0), (7, VT d), (11, I6 (m_ : Int)), (12, I6 (h.x4 % 8192)), (13, I1 (h.x4 / 8192 % 2 * 8192)), (14, VL none 0 0), (15, I6 0)], [(6, ⟨113, [I8 h.x0, I8 h.x1, I8 h.x2, I1 h.x3, I1 h.x4, I8 h.x5, I8 h.x6, I8 h.x7, I8 h.x8, I8 h.x9, I8 h.y0, I8 h.y1, I8 h.y2]⟩)]⟩ ?_
  refine X.loopJ (fun m s R' G' => ∃ (B_ : Option Addr) (c_ n_ j_ p_ : Nat) (cs_ : List Value), s = ⟨115, [(6, .own 6 0), (7, VT d), (11, I6 (m_ : Int)), (12, I6 (h.x4 % 8192)), (13, I1 (h.x4 / 8192 % 2 * 8192)), (14, VL B_ n_ c_), (15, I6 (p_ : Int))], [(6, ⟨113, [I8 h.x0, I8 h.x1, I8 h.x2, I1 h.x3, I1 h.x4, I8 h.x5, I8 h.x6, I8 h.x7, I8 h.x8, I8 h.x9, I8 h.y0, I8 h.y1, I8 h.y2]⟩)]⟩ ∧ R' = [(30, RR 22 1 B_ n_ c_ cs_)] ∧ Ge G1 w.heap.size G' ∧ (p_ = j_ * m_ ∧ p_ < d.size + m_ ∧ n_ = j_ ∧ repsD (D.slice (D.int .u8)) G' ((List.range j_).map (prtS h d m_)) cs_) ∧ m = (d.size + m_ - p_)) _ ⟨none, 0, 0, 0, 0, [], rfl, rfl, Ge.refl _ _, ⟨by omega, by omega, rfl, rfl⟩, rfl⟩ ?_
  rintro m8 s8 R8 G8 ⟨B_, c_, n_, j_, p_, cs_, rfl, rfl, hG8, hF8, rfl⟩ J8 hJ8
  replace hb := hb.mono hG8.le
  obtain ⟨hp_, hpl_, hn_, hcs_⟩ := hF8
  have hjp_ : j_ ≤ p_ := by rw [hp_]; exact Nat.le_mul_of_pos_right _ (by omega)
  obtain ⟨e_, he_⟩ : ∃ e_, e_ = min (p_ + m_) d.size := ⟨_, rfl⟩
  refine Rn 9 (Qc B85 8145) [Qs B85 4073, .loop J8, .blk 1, Qs B85 255] ⟨115, [(6, .own 6 0), (7, VT d), (11, I6 (m_ : Int)), (12, I6 (h.x4 % 8192)), (13, I1 (h.x4 / 8192 % 2 * 8192)), (14, VL B_ n_ c_), (15, I6 (p_ : Int)), (66, VB (decide ((p_ : Int) < (d.size : Int))))], [(6, ⟨113, [I8 h.x0, I8 h.x1, I8 h.x2, I1 h.x3, I1 h.x4, I8 h.x5, I8 h.x6, I8 h.x7, I8 h.x8, I8 h.x9, I8 h.y0, I8 h.y1, I8 h.y2]⟩)]⟩ ?_
  refine X.split 66 rfl (fun h9 => ?_) (fun h9 => ?_)
  ·
   replace h9 : (p_ : Int) < (d.size : Int) := of_decide_eq_true h9
   refine Rn 10 (Qo B85 32584 3) [Qs B85 32585, .blk 2, Qs B85 8147, .loop J8, .blk 1, Qs B85 255] ⟨115, [(6, .own 6 0), (7, VT d), (11, I6 (m_ : Int)), (12, I6 (h.x4 % 8192)), (13, I1 (h.x4 / 8192 % 2 * 8192)), (14, VL B_ n_ c_), (15, I6 (p_ : Int)), (72, I6 (IntKind.i64.wrap ((p_ : Int) + (m_ : Int))))], [(6, ⟨113, [I8 h.x0, I8 h.x1, I8 h.x2, I1 h.x3, I1 h.x4, I8 h.x5, I8 h.x6, I8 h.x7, I8 h.x8, I8 h.x9, I8 h.y0, I8 h.y1, I8 h.y2]⟩)]⟩ ?_
   refine Kn 72 .i64 ((p_ : Int) + (m_ : Int)) rfl (wi64 (by omega) (by omega)) ?_
   refine Rn 3 (Qo B85 32584 6) [Qs B85 32585, .blk 2, Qs B85 8147, .loop J8, .blk 1, Qs B85 255] ⟨115, [(6, .own 6 0), (7, VT d), (11, I6 (m_ : Int)), (12, I6 (h.x4 % 8192)), (13, I1 (h.x4 / 8192 % 2 * 8192)), (14, VL B_ n_ c_), (15, I6 (p_ : Int)), (75, I6 (imin ((p_ : Int) + (m_ : Int)) (d.size : Int)))], [(6, ⟨113, [I8 h.x0, I8 h.x1, I8 h.x2, I1 h.x3, I1 h.x4, I8 h.x5, I8 h.x6, I8 h.x7, I8 h.x8, I8 h.x9, I8 h.y0, I8 h.y1, I8 h.y2]⟩)]⟩ ?_
   refine Kn 75 .i64 (e_ : Int) rfl (by simp only [imin_eq]; omega) ?_
   refine Rn 9 (Qo B85 130340 3) [Qs B85 130341, Qs B85 65171, .blk 2, Qs B85 8147, .loop J8, .blk 1, Qs B85 255] ⟨115, [(6, .own 6 0), (7, VT d), (11, I6 (m_ : Int)), (12, I6 (h.x4 % 8192)), (13, I1 (h.x4 / 8192 % 2 * 8192)), (14, VL B_ n_ c_), (15, I6 (p_ : Int)), (16, I6 (e_ : Int)), (76, I6 (h.x4 % 8192)), (78, I6 (IntKind.i64.wrap (Int.tdiv (p_ : Int) 8)))], [(6, ⟨113, [I8 h.x0, I8 h.x1, I8 h.x2, I1 h.x3, I1 h.x4, I8 h.x5, I8 h.x6, I8 h.x7, I8 h.x8, I8 h.x9, I8 h.y0, I8 h.y1, I8 h.y2]⟩)]⟩ ?_
   refine Kn 78 .i64 ((p_ : Int) / 8) rfl (wdiv_i64 (by omega) (by omega) (by omega)) ?_
   refine Rn 1 (Qo B85 130340 4) [Qs B85 130341, Qs B85 65171, .blk 2, Qs B85 8147, .loop J8, .blk 1, Qs B85 255] ⟨115, [(6, .own 6 0), (7, VT d), (11, I6 (m_ : Int)), (12, I6 (h.x4 % 8192)), (13, I1 (h.x4 / 8192 % 2 * 8192)), (14, VL B_ n_ c_), (15, I6 (p_ : Int)), (16, I6 (e_ : Int)), (79, I6 (IntKind.i64.wrap ((h.x4 % 8192) + ((p_ : Int) / 8))))], [(6, ⟨113, [I8 h.x0, I8 h.x1, I8 h.x2, I1 h.x3, I1 h.x4, I8 h.x5, I8 h.x6, I8 h.x7, I8 h.x8, I8 h.x9, I8 h.y0, I8 h.y1, I8 h.y2]⟩)]⟩ ?_
   refine Kn 79 .i64 ((h.x4 % 8192) + ((p_ : Int) / 8)) rfl (wi64 (by omega) (by omega)) ?_
   refine Rn 3 (Qc B85 130341) [Qs B85 65171, .blk 2, Qs B85 8147, .loop J8, .blk 1, Qs B85 255] ⟨115, [(6, .own 6 0), (7, VT d), (11, I6 (m_ : Int)), (12, I6 (h.x4 % 8192)), (13, I1 (h.x4 / 8192 % 2 * 8192)), (14, VL B_ n_ c_), (15, I6 (p_ : Int)), (16, I6 (e_ : Int)), (80, VB (decide ((h.x4 % 8192) + ((p_ : Int) / 8) > 8191)))], [(6, ⟨113, [I8 h.x0, I8 h.x1, I8 h.x2, I1 h.x3, I1 h.x4, I8 h.x5, I8 h.x6, I8 h.x7, I8 h.x8, I8 h.x9, I8 h.y0, I8 h.y1, I8 h.y2]⟩)]⟩ ?_
   refine X.isFalse 80 rfl (decide_eq_false (by omega)) ?_
   refine Rn 15 (Qo B85 260686 3) [Qs B85 260687, .blk 2, Qs B85 8147, .loop J8, .blk 1, Qs B85 255] ⟨115, [(6, .own 6 0), (7, VT d), (11, I6 (m_ : Int)), (12, I6 (h.x4 % 8192)), (13, I1 (h.x4 / 8192 % 2 * 8192)), (14, VL B_ n_ c_), (15, I6 (p_ : Int)), (16, I6 (e_ : Int)), (17, .own 17 0), (82, I6 (h.x4 % 8192)), (84, I6 (IntKind.i64.wrap (Int.tdiv (p_ : Int) 8)))], [(6, ⟨113, [I8 h.x0, I8 h.x1, I8 h.x2, I1 h.x3, I1 h.x4, I8 h.x5, I8 h.x6, I8 h.x7, I8 h.x8, I8 h.x9, I8 h.y0, I8 h.y1, I8 h.y2]⟩), (17, ⟨113, [I8 h.x0, I8 h.x1, I8 h.x2, I1 h.x3, I1 h.x4, I8 h.x5, I8 h.x6, I8 h.x7, I8 h.x8, I8 h.x9, I8 h.y0, I8 h.y1, I8 h.y2]⟩)]⟩ ?_
   refine Kn 84 .i64 ((p_ : Int) / 8) rfl (wdiv_i64 (by omega) (by omega) (by omega)) ?_
   refine Rn 1 (Qo B85 260686 4) [Qs B85 260687, .blk 2, Qs B85 8147, .loop J8, .blk 1, Qs B85 255] ⟨115, [(6, .own 6 0), (7, VT d), (11, I6 (m_ : Int)), (12, I6 (h.x4 % 8192)), (13, I1 (h.x4 / 8192 % 2 * 8192)), (14, VL B_ n_ c_), (15, I6 (p_ : Int)), (16, I6 (e_ : Int)), (17, .own 17 0), (85, I6 (IntKind.i64.wrap ((h.x4 % 8192) + ((p_ : Int) / 8))))], [(6, ⟨113, [I8 h.x0, I8 h.x1, I8 h.x2, I1 h.x3, I1 h.x4, I8 h.x5, I8 h.x6, I8 h.x7, I8 h.x8, I8 h.x9, I8 h.y0, I8 h.y1, I8 h.y2]⟩), (17, ⟨113, [I8 h.x0, I8 h.x1, I8 h.x2, I1 h.x3, I1 h.x4, I8 h.x5, I8 h.x6, I8 h.x7, I8 h.x8, I8 h.x9, I8 h.y0, I8 h.y1, I8 h.y2]⟩)]⟩ ?_
   refine Kn 85 .i64 ((h.x4 % 8192) + ((p_ : Int) / 8)) rfl (wi64 (by omega) (by omega)) ?_
   refine Rn 1 (Qo B85 260686 5) [Qs B85 260687, .blk 2, Qs B85 8147, .loop J8, .blk 1, Qs B85 255] ⟨115, [(6, .own 6 0), (7, VT d), (11, I6 (m_ : Int)), (12, I6 (h.x4 % 8192)), (13, I1 (h.x4 / 8192 % 2 * 8192)), (14, VL B_ n_ c_), (15, I6 (p_ : Int)), (16, I6 (e_ : Int)), (17, .own 17 0), (86, I1 (IntKind.u16.wrap ((h.x4 % 8192) + ((p_ : Int) / 8))))], [(6, ⟨113, [I8 h.x0, I8 h.x1, I8 h.x2, I1 h.x3, I1 h.x4, I8 h.x5, I8 h.x6, I8 h.x7, I8 h.x8, I8 h.x9, I8 h.y0, I8 h.y1, I8 h.y2]⟩), (17, ⟨113, [I8 h.x0, I8 h.x1, I8 h.x2, I1 h.x3, I1 h.x4, I8 h.x5, I8 h.x6, I8 h.x7, I8 h.x8, I8 h.x9, I8 h.y0, I8 h.y1, I8 h.y2]⟩)]⟩ ?_
   refine Kn 86 .u16 ((h.x4 % 8192) + ((p_ : Int) / 8)) rfl (wu16 (by omega) (by omega)) ?_
   refine Rn 13 (Qc B85 1042749) [Qs B85 521375, .blk 2, Qs B85 8147, .loop J8, .blk 1, Qs B85 255] ⟨115, [(6, .own 6 0), (7, VT d), (11, I6 (m_ : Int)), (12, I6 (h.x4 % 8192)), (13, I1 (h.x4 / 8192 % 2 * 8192)), (14, VL B_ n_ c_), (15, I6 (p_ : Int)), (16, I6 (e_ : Int)), (17, .own 17 0), (91, VB (decide ((e_ : Int) < (d.size : Int))))], [(6, ⟨113, [I8 h.x0, I8 h.x1, I8 h.x2, I1 h.x3, I1 h.x4, I8 h.x5, I8 h.x6, I8 h.x7, I8 h.x8, I8 h.x9, I8 h.y0, I8 h.y1, I8 h.y2]⟩), (17, ⟨113, [I8 h.x0, I8 h.x1, I8 h.x2, I1 h.x3, I1 ((h.x4 % 8192) + ((p_ : Int) / 8)), I8 h.x5, I8 h.x6, I8 h.x7, I8 h.x8, I8 h.x9, I8 h.y0, I8 h.y1, I8 h.y2]⟩)]⟩ ?_
   refine X.split 91 rfl (fun h10 => ?_) (fun h10 => ?_)
   ·
    replace h10 : (e_ : Int) < (d.size : Int) := of_decide_eq_true h10
    have hmo_ : p_ + m_ < d.size := by omega
    refine Rn 5 (Qo B85 2085498 3) [Qs B85 521375, .blk 2, Qs B85 8147, .loop J8, .blk 1, Qs B85 255] ⟨115, [(6, .own 6 0), (7, VT d), (11, I6 (m_ : Int)), (12, I6 (h.x4 % 8192)), (13, I1 (h.x4 / 8192 % 2 * 8192)), (14, VL B_ n_ c_), (15, I6 (p_ : Int)), (16, I6 (e_ : Int)), (17, .own 17 0), (94, I1 (bor .u16 ((h.x4 % 8192) + ((p_ : Int) / 8)) 8192))], [(6, ⟨113, [I8 h.x0, I8 h.x1, I8 h.x2, I1 h.x3, I1 h.x4, I8 h.x5, I8 h.x6, I8 h.x7, I8 h.x8, I8 h.x9, I8 h.y0, I8 h.y1, I8 h.y2]⟩), (17, ⟨113, [I8 h.x0, I8 h.x1, I8 h.x2, I1 h.x3, I1 ((h.x4 % 8192) + ((p_ : Int) / 8)), I8 h.x5, I8 h.x6, I8 h.x7, I8 h.x8, I8 h.x9, I8 h.y0, I8 h.y1, I8 h.y2]⟩)]⟩ ?_
    refine Kn 94 .u16 ((h.x4 % 8192) + ((p_ : Int) / 8) + 8192) rfl (or_more (by omega)) ?_
    refine Rn 5 (Qc B85 1042750) [Qs B85 1042751, .blk 2, Qs B85 8147, .loop J8, .blk 1, Qs B85 255] ⟨115, [(6, .own 6 0), (7, VT d), (11, I6 (m_ : Int)), (12, I6 (h.x4 % 8192)), (13, I1 (h.x4 / 8192 % 2 * 8192)), (14, VL B_ n_ c_), (15, I6 (p_ : Int)), (16, I6 (e_ : Int)), (17, .own 17 0)], [(6, ⟨113, [I8 h.x0, I8 h.x1, I8 h.x2, I1 h.x3, I1 h.x4, I8 h.x5, I8 h.x6, I8 h.x7, I8 h.x8, I8 h.x9, I8 h.y0, I8 h.y1, I8 h.y2]⟩), (17, ⟨113, [I8 h.x0, I8 h.x1, I8 h.x2, I1 h.x3, I1 ((h.x4 % 8192) + ((p_ : Int) / 8) + 8192), I8 h.x5, I8 h.x6, I8 h.x7, I8 h.x8, I8 h.x9, I8 h.y0, I8 h.y1, I8 h.y2]⟩)]⟩ ?_
    have hb_d11 := hb
    have hcs__d11 := hcs_
    refine Og 25 B85 1042750 11 [⟨some 17, 17, 113, [I8 h.x0, I8 h.x1, I8 h.x2, I1 h.x3, I1 ((h.x4 % 8192) + ((p_ : Int) / 8) + 8192), I8 h.x5, I8 h.x6, I8 h.x7, I8 h.x8, I8 h.x9, I8 h.y0, I8 h.y1, I8 h.y2]⟩] [] [] ⟨⟨fun _ h => (by cases h; rfl), rfl⟩, trivial⟩ (by intro p hp hn; simp only [List.mem_cons, List.not_mem_nil, or_false] at hp; rcases hp with rfl <;> first | (cases hn; done) | exact absurd _ (Nat.le_of_ble_eq_true rfl)) (fun ρ0 => ?_)
    refine Tk 0 11 1 B85 1042750 (.v (.agg #[N8 h.x0, N8 h.x1, N8 h.x2, N1 h.x3, N1 ((h.x4 % 8192) + ((p_ : Int) / 8) + 8192), N8 h.x5, N8 h.x6, N8 h.x7, N8 h.x8, N8 h.x9, N8 h.y0, N8 h.y1, N8 h.y2])) QOk.ctxG ?_
    refine Tk 1 11 3 B85 1042750 (VT d) QOk.ctxG ?_
    refine Tk 2 11 7 B85 1042750 (I6 (p_ : Int)) QOk.ctxG ?_
    refine Tk 3 11 15 B85 1042750 (I6 (e_ : Int)) QOk.ctxG ?_
    refine XD.cutStr (i := 4) (l' := (lb 11 31)) (oA B85 (pa 1042750) 4) (t := 9) (b := d) (x := .tmp 103) (l0 := (some (.tmp 104))) (h := (some (.tmp 105))) (lv := (some (N6 (p_ : Int)))) (hv := (some (N6 (e_ : Int)))) (((p_ : Int)).toNat) (((e_ : Int)).toNat) QOk.ctxG (by kernel_rfl) (by kernel_rfl) (by kernel_rfl) (by kernel_rfl) (by kernel_rfl) (by kernel_rfl) (by kernel_rfl) (by kernel_rfl) (⟨_, _, rfl, by omega, rfl⟩) (⟨_, _, rfl, by omega, rfl⟩) (by omega) (by omega) (by kernel_rfl) ?_
    refine Dn ⟨115, [(6, .own 6 0), (7, VT d), (11, I6 (m_ : Int)), (12, I6 (h.x4 % 8192)), (13, I1 (h.x4 / 8192 % 2 * 8192)), (14, VL B_ n_ c_), (15, I6 (p_ : Int)), (17, .own 17 0), (102, .v (.agg #[N8 h.x0, N8 h.x1, N8 h.x2, N1 h.x3, N1 ((h.x4 % 8192) + ((p_ : Int) / 8) + 8192), N8 h.x5, N8 h.x6, N8 h.x7, N8 h.x8, N8 h.x9, N8 h.y0, N8 h.y1, N8 h.y2])), (106, VT (d.extract (((p_ : Int)).toNat) (((e_ : Int)).toNat)))], [(6, ⟨113, [I8 h.x0, I8 h.x1, I8 h.x2, I1 h.x3, I1 h.x4, I8 h.x5, I8 h.x6, I8 h.x7, I8 h.x8, I8 h.x9, I8 h.y0, I8 h.y1, I8 h.y2]⟩), (17, ⟨113, [I8 h.x0, I8 h.x1, I8 h.x2, I1 h.x3, I1 ((h.x4 % 8192) + ((p_ : Int) / 8) + 8192), I8 h.x5, I8 h.x6, I8 h.x7, I8 h.x8, I8 h.x9, I8 h.y0, I8 h.y1, I8 h.y2]⟩)]⟩ ⟨⟨fun _ h => (by cases h; rfl), rfl⟩, trivial⟩ ?_
    refine Do 5 11 63 B85 1042750 ?_
    refine Cg 78 [.agg #[N8 h.x0, N8 h.x1, N8 h.x2, N1 h.x3, N1 ((h.x4 % 8192) + ((p_ : Int) / 8) + 8192), N8 h.x5, N8 h.x6, N8 h.x7, N8 h.x8, N8 h.x9, N8 h.y0, N8 h.y1, N8 h.y2], .string (d.extract (((p_ : Int)).toNat) (((e_ : Int)).toNat))] 727 (EncI_ok (frI h ((h.x4 % 8192) + ((p_ : Int) / 8) + 8192)) (d.extract (((p_ : Int)).toNat) (((e_ : Int)).toNat)) _ (frI_ok hh (by omega)) (by rw [ByteArray.size_extract]; simp only [maxLen]; omega)) ?_
    rintro v12 G12 rows12 hG12 ⟨A12, c12, rfl, rfl⟩
    replace hb := hb.mono hG12.le
    replace hcs_ := hcs_.mono hG12.le
    refine X.asR (R' := [(727, RR 5 1 A12 ((encI (frI h ((h.x4 % 8192) + ((p_ : Int) / 8) + 8192)) (d.extract (((p_ : Int)).toNat) (((e_ : Int)).toNat))).1.length) c12 (((encI (frI h ((h.x4 % 8192) + ((p_ : Int) / 8) + 8192)) (d.extract (((p_ : Int)).toNat) (((e_ : Int)).toNat))).1).map (Value.int .u8))), (30, RR 22 1 B_ n_ c_ cs_)]) rfl ?_
    refine X.back ⟨⟨⟨fun _ h => (by cases h; rfl), rfl⟩, trivial⟩, hG12.le, rfl, ?_⟩
    refine Ts [6, 7, 8, 9, 10] 11 2047 0 5 QOk.ctxG ?_
    refine XD.done (by kernel_rfl) ?_
    refine Rn 4 (Qo B85 1042751 2) [.blk 2, Qs B85 8147, .loop J8, .blk 1, Qs B85 255] ⟨115, [(6, .own 6 0), (7, VT d), (11, I6 (m_ : Int)), (12, I6 (h.x4 % 8192)), (13, I1 (h.x4 / 8192 % 2 * 8192)), (14, VL B_ n_ c_), (15, I6 (p_ : Int)), (110, VL B_ n_ c_), (111, VL A12 ((encI (frI h ((h.x4 % 8192) + ((p_ : Int) / 8) + 8192)) (d.extract (((p_ : Int)).toNat) (((e_ : Int)).toNat))).1.length) c12)], [(6, ⟨113, [I8 h.x0, I8 h.x1, I8 h.x2, I1 h.x3, I1 h.x4, I8 h.x5, I8 h.x6, I8 h.x7, I8 h.x8, I8 h.x9, I8 h.y0, I8 h.y1, I8 h.y2]⟩)]⟩ ?_
    refine X.tellR [727, 30] (R' := [(727, RR 5 1 A12 ((encI (frI h ((h.x4 % 8192) + ((p_ : Int) / 8) + 8192)) (d.extract (((p_ : Int)).toNat) (((e_ : Int)).toNat))).1.length) c12 (((encI (frI h ((h.x4 % 8192) + ((p_ : Int) / 8) + 8192)) (d.extract (((p_ : Int)).toNat) (((e_ : Int)).toNat))).1).map (Value.int .u8))), (30, RR 22 1 B_ n_ c_ cs_)]) rfl ?_
    refine X.capLe (i := 727) (q := (RR 5 1 A12 ((encI (frI h ((h.x4 % 8192) + ((p_ : Int) / 8) + 8192)) (d.extract (((p_ : Int)).toNat) (((e_ : Int)).toNat))).1.length) c12 (((encI (frI h ((h.x4 % 8192) + ((p_ : Int) / 8) + 8192)) (d.extract (((p_ : Int)).toNat) (((e_ : Int)).toNat))).1).map (Value.int .u8)))) (n := (encI (frI h ((h.x4 % 8192) + ((p_ : Int) / 8) + 8192)) (d.extract (((p_ : Int)).toNat) (((e_ : Int)).toNat))).1.length) (c := c12) (A := A12) rfl rfl ?_
    intro hle14 hmx14
    refine X.freezeHd (i := 727) (n := (encI (frI h ((h.x4 % 8192) + ((p_ : Int) / 8) + 8192)) (d.extract (((p_ : Int)).toNat) (((e_ : Int)).toNat))).1.length) (c := c12) (A := A12) (kd := .u8) ((encI (frI h ((h.x4 % 8192) + ((p_ : Int) / 8) + 8192)) (d.extract (((p_ : Int)).toNat) (((e_ : Int)).toNat))).1) rfl rfl (fun x_ hx_ => by have h_ := encI_bytes (frI_ok hh (by omega)) _ x_ hx_; simp only [IntKind.lo, IntKind.hi]; omega) (by kernel_rfl) (fun _ h => h) ?_
    intro G14 hG14 hr14
    replace hb := hb.mono hG14.le
    replace hcs_ := hcs_.mono hG14.le
    refine Lt 112 22 1 1 [.slice A12 ((encI (frI h ((h.x4 % 8192) + ((p_ : Int) / 8) + 8192)) (d.extract (((p_ : Int)).toNat) (((e_ : Int)).toNat))).1.length) c12] ?_
    intro A15
    refine Rn 0 (Qo B85 1042751 3) [.blk 2, Qs B85 8147, .loop J8, .blk 1, Qs B85 255] ⟨115, [(6, .own 6 0), (7, VT d), (11, I6 (m_ : Int)), (12, I6 (h.x4 % 8192)), (13, I1 (h.x4 / 8192 % 2 * 8192)), (14, VL B_ n_ c_), (15, I6 (p_ : Int)), (110, VL B_ n_ c_), (112, VL A15 1 1)], [(6, ⟨113, [I8 h.x0, I8 h.x1, I8 h.x2, I1 h.x3, I1 h.x4, I8 h.x5, I8 h.x6, I8 h.x7, I8 h.x8, I8 h.x9, I8 h.y0, I8 h.y1, I8 h.y2]⟩)]⟩ ?_
    refine Ap 30 (RR 22 1 B_ n_ c_ cs_) 121 24 (.slice none 0 0) (.tmp 110) (.tmp 112) n_ c_ 1 1 B_ A15 [.slice A12 ((encI (frI h ((h.x4 % 8192) + ((p_ : Int) / 8) + 8192)) (d.extract (((p_ : Int)).toNat) (((e_ : Int)).toNat))).1.length) c12] (.inl rfl) (by kernel_rfl) (At.of_row (i := 112) (r := (RR 22 1 A15 1 1 [.slice A12 ((encI (frI h ((h.x4 % 8192) + ((p_ : Int) / 8) + 8192)) (d.extract (((p_ : Int)).toNat) (((e_ : Int)).toNat))).1.length) c12])) rfl rfl) (fun w hw e => absurd (rowSome (i := 112) (q := (RR 22 1 A15 1 1 [.slice A12 ((encI (frI h ((h.x4 % 8192) + ((p_ : Int) / 8) + 8192)) (d.extract (((p_ : Int)).toNat) (((e_ : Int)).toNat))).1.length) c12])) rfl rfl (Nat.succ_pos _) w hw) (by rw [e]; decide)) (ones (by kernel_rfl)) (by omega) ?_
    intro A16 c16 hc16
    refine X.tellR [30, 112] (R' := [(30, RR 22 1 A16 (n_ + 1) c16 (cs_ ++ [.slice A12 ((encI (frI h ((h.x4 % 8192) + ((p_ : Int) / 8) + 8192)) (d.extract (((p_ : Int)).toNat) (((e_ : Int)).toNat))).1.length) c12])), (112, RR 22 1 A15 1 1 [.slice A12 ((encI (frI h ((h.x4 % 8192) + ((p_ : Int) / 8) + 8192)) (d.extract (((p_ : Int)).toNat) (((e_ : Int)).toNat))).1.length) c12])]) rfl ?_
    refine Rn 8 (Qo B85 8147 3) [.loop J8, .blk 1, Qs B85 255] ⟨115, [(6, .own 6 0), (7, VT d), (11, I6 (m_ : Int)), (12, I6 (h.x4 % 8192)), (13, I1 (h.x4 / 8192 % 2 * 8192)), (14, VL A16 (n_ + 1) c16), (15, I6 (p_ : Int)), (69, I6 (IntKind.i64.wrap ((p_ : Int) + (m_ : Int))))], [(6, ⟨113, [I8 h.x0, I8 h.x1, I8 h.x2, I1 h.x3, I1 h.x4, I8 h.x5, I8 h.x6, I8 h.x7, I8 h.x8, I8 h.x9, I8 h.y0, I8 h.y1, I8 h.y2]⟩)]⟩ ?_
    refine Kn 69 .i64 ((p_ + m_ : Nat) : Int) rfl (by rw [wi64 (by omega) (by omega)]; push_cast; rfl) ?_
    refine Rn 2 (.ex .normal) [.loop J8, .blk 1, Qs B85 255] ⟨115, [(6, .own 6 0), (7, VT d), (11, I6 (m_ : Int)), (12, I6 (h.x4 % 8192)), (13, I1 (h.x4 / 8192 % 2 * 8192)), (14, VL A16 (n_ + 1) c16), (15, I6 ((p_ + m_ : Nat) : Int))], [(6, ⟨113, [I8 h.x0, I8 h.x1, I8 h.x2, I1 h.x3, I1 h.x4, I8 h.x5, I8 h.x6, I8 h.x7, I8 h.x8, I8 h.x9, I8 h.y0, I8 h.y1, I8 h.y2]⟩)]⟩ ?_
    refine X.tellR [30] (R' := [(30, RR 22 1 A16 (n_ + 1) c16 (cs_ ++ [.slice A12 ((encI (frI h ((h.x4 % 8192) + ((p_ : Int) / 8) + 8192)) (d.extract (((p_ : Int)).toNat) (((e_ : Int)).toNat))).1.length) c12]))]) rfl ?_
    have hE_ : (encI (frI h ((h.x4 % 8192) + ((p_ : Int) / 8) + 8192)) (d.extract (((p_ : Int)).toNat) (((e_ : Int)).toNat))).1 = prtS h d m_ j_ := part_is (p := p_) (e := e_) hp_ he_ (by rw [if_pos hmo_])
    have hpn_ : p_ + m_ = (j_ + 1) * m_ := by rw [Nat.add_mul, Nat.one_mul, hp_]
    exact X.again (hJ8 _ _ _ _ ⟨A16, c16, (n_ + 1), (j_ + 1), (p_ + m_), cs_ ++ [.slice A12 ((encI (frI h ((h.x4 % 8192) + ((p_ : Int) / 8) + 8192)) (d.extract (((p_ : Int)).toNat) (((e_ : Int)).toNat))).1.length) c12], rfl, rfl, ((hG8.trans hG12).trans hG14), ⟨hpn_, by omega, by rw [hn_], by rw [List.range_succ, List.map_append]; refine repsD.append hcs_ ?_; show repsD _ _ [prtS h d m_ j_] _; rw [← hE_]; exact repsD.single (rep_sliceN rfl hle14 hmx14 hr14)⟩, rfl⟩ (by omega))
   ·
    replace h10 : ¬ ((e_ : Int) < (d.size : Int)) := of_decide_eq_false h10
    have hmo_ : ¬ p_ + m_ < d.size := by omega
    refine Rn 6 (Qo B85 2085499 4) [Qs B85 521375, .blk 2, Qs B85 8147, .loop J8, .blk 1, Qs B85 255] ⟨115, [(6, .own 6 0), (7, VT d), (11, I6 (m_ : Int)), (12, I6 (h.x4 % 8192)), (13, I1 (h.x4 / 8192 % 2 * 8192)), (14, VL B_ n_ c_), (15, I6 (p_ : Int)), (16, I6 (e_ : Int)), (17, .own 17 0), (99, I1 (bor .u16 ((h.x4 % 8192) + ((p_ : Int) / 8)) (h.x4 / 8192 % 2 * 8192)))], [(6, ⟨113, [I8 h.x0, I8 h.x1, I8 h.x2, I1 h.x3, I1 h.x4, I8 h.x5, I8 h.x6, I8 h.x7, I8 h.x8, I8 h.x9, I8 h.y0, I8 h.y1, I8 h.y2]⟩), (17, ⟨113, [I8 h.x0, I8 h.x1, I8 h.x2, I1 h.x3, I1 ((h.x4 % 8192) + ((p_ : Int) / 8)), I8 h.x5, I8 h.x6, I8 h.x7, I8 h.x8, I8 h.x9, I8 h.y0, I8 h.y1, I8 h.y2]⟩)]⟩ ?_
    refine Kn 99 .u16 ((h.x4 % 8192) + ((p_ : Int) / 8) + h.x4 / 8192 % 2 * 8192) rfl (or_last (by omega)) ?_
    refine Rn 5 (Qc B85 1042750) [Qs B85 1042751, .blk 2, Qs B85 8147, .loop J8, .blk 1, Qs B85 255] ⟨115, [(6, .own 6 0), (7, VT d), (11, I6 (m_ : Int)), (12, I6 (h.x4 % 8192)), (13, I1 (h.x4 / 8192 % 2 * 8192)), (14, VL B_ n_ c_), (15, I6 (p_ : Int)), (16, I6 (e_ : Int)), (17, .own 17 0)], [(6, ⟨113, [I8 h.x0, I8 h.x1, I8 h.x2, I1 h.x3, I1 h.x4, I8 h.x5, I8 h.x6, I8 h.x7, I8 h.x8, I8 h.x9, I8 h.y0, I8 h.y1, I8 h.y2]⟩), (17, ⟨113, [I8 h.x0, I8 h.x1, I8 h.x2, I1 h.x3, I1 ((h.x4 % 8192) + ((p_ : Int) / 8) + h.x4 / 8192 % 2 * 8192), I8 h.x5, I8 h.x6, I8 h.x7, I8 h.x8, I8 h.x9, I8 h.y0, I8 h.y1, I8 h.y2]⟩)]⟩ ?_
    have hb_d17 := hb
    have hcs__d17 := hcs_
    refine Og 25 B85 1042750 11 [⟨some 17, 17, 113, [I8 h.x0, I8 h.x1, I8 h.x2, I1 h.x3, I1 ((h.x4 % 8192) + ((p_ : Int) / 8) + h.x4 / 8192 % 2 * 8192), I8 h.x5, I8 h.x6, I8 h.x7, I8 h.x8, I8 h.x9, I8 h.y0, I8 h.y1, I8 h.y2]⟩] [] [] ⟨⟨fun _ h => (by cases h; rfl), rfl⟩, trivial⟩ (by intro p hp hn; simp only [List.mem_cons, List.not_mem_nil, or_false] at hp; rcases hp with rfl <;> first | (cases hn; done) | exact absurd _ (Nat.le_of_ble_eq_true rfl)) (fun ρ0 => ?_)
    refine Tk 0 11 1 B85 1042750 (.v (.agg #[N8 h.x0, N8 h.x1, N8 h.x2, N1 h.x3, N1 ((h.x4 % 8192) + ((p_ : Int) / 8) + h.x4 / 8192 % 2 * 8192), N8 h.x5, N8 h.x6, N8 h.x7, N8 h.x8, N8 h.x9, N8 h.y0, N8 h.y1, N8 h.y2])) QOk.ctxG ?_
    refine Tk 1 11 3 B85 1042750 (VT d) QOk.ctxG ?_
    refine Tk 2 11 7 B85 1042750 (I6 (p_ : Int)) QOk.ctxG ?_
    refine Tk 3 11 15 B85 1042750 (I6 (e_ : Int)) QOk.ctxG ?_
    refine XD.cutStr (i := 4) (l' := (lb 11 31)) (oA B85 (pa 1042750) 4) (t := 9) (b := d) (x := .tmp 103) (l0 := (some (.tmp 104))) (h := (some (.tmp 105))) (lv := (some (N6 (p_ : Int)))) (hv := (some (N6 (e_ : Int)))) (((p_ : Int)).toNat) (((e_ : Int)).toNat) QOk.ctxG (by kernel_rfl) (by kernel_rfl) (by kernel_rfl) (by kernel_rfl) (by kernel_rfl) (by kernel_rfl) (by kernel_rfl) (by kernel_rfl) (⟨_, _, rfl, by omega, rfl⟩) (⟨_, _, rfl, by omega, rfl⟩) (by omega) (by omega) (by kernel_rfl) ?_
    refine Dn ⟨115, [(6, .own 6 0), (7, VT d), (11, I6 (m_ : Int)), (12, I6 (h.x4 % 8192)), (13, I1 (h.x4 / 8192 % 2 * 8192)), (14, VL B_ n_ c_), (15, I6 (p_ : Int)), (17, .own 17 0), (102, .v (.agg #[N8 h.x0, N8 h.x1, N8 h.x2, N1 h.x3, N1 ((h.x4 % 8192) + ((p_ : Int) / 8) + h.x4 / 8192 % 2 * 8192), N8 h.x5, N8 h.x6, N8 h.x7, N8 h.x8, N8 h.x9, N8 h.y0, N8 h.y1, N8 h.y2])), (106, VT (d.extract (((p_ : Int)).toNat) (((e_ : Int)).toNat)))], [(6, ⟨113, [I8 h.x0, I8 h.x1, I8 h.x2, I1 h.x3, I1 h.x4, I8 h.x5, I8 h.x6, I8 h.x7, I8 h.x8, I8 h.x9, I8 h.y0, I8 h.y1, I8 h.y2]⟩), (17, ⟨113, [I8 h.x0, I8 h.x1, I8 h.x2, I1 h.x3, I1 ((h.x4 % 8192) + ((p_ : Int) / 8) + h.x4 / 8192 % 2 * 8192), I8 h.x5, I8 h.x6, I8 h.x7, I8 h.x8, I8 h.x9, I8 h.y0, I8 h.y1, I8 h.y2]⟩)]⟩ ⟨⟨fun _ h => (by cases h; rfl), rfl⟩, trivial⟩ ?_
    refine Do 5 11 63 B85 1042750 ?_
    refine Cg 78 [.agg #[N8 h.x0, N8 h.x1, N8 h.x2, N1 h.x3, N1 ((h.x4 % 8192) + ((p_ : Int) / 8) + h.x4 / 8192 % 2 * 8192), N8 h.x5, N8 h.x6, N8 h.x7, N8 h.x8, N8 h.x9, N8 h.y0, N8 h.y1, N8 h.y2], .string (d.extract (((p_ : Int)).toNat) (((e_ : Int)).toNat))] 727 (EncI_ok (frI h ((h.x4 % 8192) + ((p_ : Int) / 8) + h.x4 / 8192 % 2 * 8192)) (d.extract (((p_ : Int)).toNat) (((e_ : Int)).toNat)) _ (frI_ok hh (by omega)) (by rw [ByteArray.size_extract]; simp only [maxLen]; omega)) ?_
    rintro v18 G18 rows18 hG18 ⟨A18, c18, rfl, rfl⟩
    replace hb := hb.mono hG18.le
    replace hcs_ := hcs_.mono hG18.le
    refine X.asR (R' := [(727, RR 5 1 A18 ((encI (frI h ((h.x4 % 8192) + ((p_ : Int) / 8) + h.x4 / 8192 % 2 * 8192)) (d.extract (((p_ : Int)).toNat) (((e_ : Int)).toNat))).1.length) c18 (((encI (frI h ((h.x4 % 8192) + ((p_ : Int) / 8) + h.x4 / 8192 % 2 * 8192)) (d.extract (((p_ : Int)).toNat) (((e_ : Int)).toNat))).1).map (Value.int .u8))), (30, RR 22 1 B_ n_ c_ cs_)]) rfl ?_
    refine X.back ⟨⟨⟨fun _ h => (by cases h; rfl), rfl⟩, trivial⟩, hG18.le, rfl, ?_⟩
    refine Ts [6, 7, 8, 9, 10] 11 2047 0 5 QOk.ctxG ?_
    refine XD.done (by kernel_rfl) ?_
    refine Rn 4 (Qo B85 1042751 2) [.blk 2, Qs B85 8147, .loop J8, .blk 1, Qs B85 255] ⟨115, [(6, .own 6 0), (7, VT d), (11, I6 (m_ : Int)), (12, I6 (h.x4 % 8192)), (13, I1 (h.x4 / 8192 % 2 * 8192)), (14, VL B_ n_ c_), (15, I6 (p_ : Int)), (110, VL B_ n_ c_), (111, VL A18 ((encI (frI h ((h.x4 % 8192) + ((p_ : Int) / 8) + h.x4 / 8192 % 2 * 8192)) (d.extract (((p_ : Int)).toNat) (((e_ : Int)).toNat))).1.length) c18)], [(6, ⟨113, [I8 h.x0, I8 h.x1, I8 h.x2, I1 h.x3, I1 h.x4, I8 h.x5, I8 h.x6, I8 h.x7, I8 h.x8, I8 h.x9, I8 h.y0, I8 h.y1, I8 h.y2]⟩)]⟩ ?_
    refine X.tellR [727, 30] (R' := [(727, RR 5 1 A18 ((encI (frI h ((h.x4 % 8192) + ((p_ : Int) / 8) + h.x4 / 8192 % 2 * 8192)) (d.extract (((p_ : Int)).toNat) (((e_ : Int)).toNat))).1.length) c18 (((encI (frI h ((h.x4 % 8192) + ((p_ : Int) / 8) + h.x4 / 8192 % 2 * 8192)) (d.extract (((p_ : Int)).toNat) (((e_ : Int)).toNat))).1).map (Value.int .u8))), (30, RR 22 1 B_ n_ c_ cs_)]) rfl ?_
    refine X.capLe (i := 727) (q := (RR 5 1 A18 ((encI (frI h ((h.x4 % 8192) + ((p_ : Int) / 8) + h.x4 / 8192 % 2 * 8192)) (d.extract (((p_ : Int)).toNat) (((e_ : Int)).toNat))).1.length) c18 (((encI (frI h ((h.x4 % 8192) + ((p_ : Int) / 8) + h.x4 / 8192 % 2 * 8192)) (d.extract (((p_ : Int)).toNat) (((e_ : Int)).toNat))).1).map (Value.int .u8)))) (n := (encI (frI h ((h.x4 % 8192) + ((p_ : Int) / 8) + h.x4 / 8192 % 2 * 8192)) (d.extract (((p_ : Int)).toNat) (((e_ : Int)).toNat))).1.length) (c := c18) (A := A18) rfl rfl ?_
    intro hle20 hmx20
    refine X.freezeHd (i := 727) (n := (encI (frI h ((h.x4 % 8192) + ((p_ : Int) / 8) + h.x4 / 8192 % 2 * 8192)) (d.extract (((p_ : Int)).toNat) (((e_ : Int)).toNat))).1.length) (c := c18) (A := A18) (kd := .u8) ((encI (frI h ((h.x4 % 8192) + ((p_ : Int) / 8) + h.x4 / 8192 % 2 * 8192)) (d.extract (((p_ : Int)).toNat) (((e_ : Int)).toNat))).1) rfl rfl (fun x_ hx_ => by have h_ := encI_bytes (frI_ok hh (by omega)) _ x_ hx_; simp only [IntKind.lo, IntKind.hi]; omega) (by kernel_rfl) (fun _ h => h) ?_
    intro G20 hG20 hr20
    replace hb := hb.mono hG20.le
    replace hcs_ := hcs_.mono hG20.le
    refine Lt 112 22 1 1 [.slice A18 ((encI (frI h ((h.x4 % 8192) + ((p_ : Int) / 8) + h.x4 / 8192 % 2 * 8192)) (d.extract (((p_ : Int)).toNat) (((e_ : Int)).toNat))).1.length) c18] ?_
    intro A21
    refine Rn 0 (Qo B85 1042751 3) [.blk 2, Qs B85 8147, .loop J8, .blk 1, Qs B85 255] ⟨115, [(6, .own 6 0), (7, VT d), (11, I6 (m_ : Int)), (12, I6 (h.x4 % 8192)), (13, I1 (h.x4 / 8192 % 2 * 8192)), (14, VL B_ n_ c_), (15, I6 (p_ : Int)), (110, VL B_ n_ c_), (112, VL A21 1 1)], [(6, ⟨113, [I8 h.x0, I8 h.x1, I8 h.x2, I1 h.x3, I1 h.x4, I8 h.x5, I8 h.x6, I8 h.x7, I8 h.x8, I8 h.x9, I8 h.y0, I8 h.y1, I8 h.y2]⟩)]⟩ ?_
    refine Ap 30 (RR 22 1 B_ n_ c_ cs_) 121 24 (.slice none 0 0) (.tmp 110) (.tmp 112) n_ c_ 1 1 B_ A21 [.slice A18 ((encI (frI h ((h.x4 % 8192) + ((p_ : Int) / 8) + h.x4 / 8192 % 2 * 8192)) (d.extract (((p_ : Int)).toNat) (((e_ : Int)).toNat))).1.length) c18] (.inl rfl) (by kernel_rfl) (At.of_row (i := 112) (r := (RR 22 1 A21 1 1 [.slice A18 ((encI (frI h ((h.x4 % 8192) + ((p_ : Int) / 8) + h.x4 / 8192 % 2 * 8192)) (d.extract (((p_ : Int)).toNat) (((e_ : Int)).toNat))).1.length) c18])) rfl rfl) (fun w hw e => absurd (rowSome (i := 112) (q := (RR 22 1 A21 1 1 [.slice A18 ((encI (frI h ((h.x4 % 8192) + ((p_ : Int) / 8) + h.x4 / 8192 % 2 * 8192)) (d.extract (((p_ : Int)).toNat) (((e_ : Int)).toNat))).1.length) c18])) rfl rfl (Nat.succ_pos _) w hw) (by rw [e]; decide)) (ones (by kernel_rfl)) (by omega) ?_
    intro A22 c22 hc22
    refine X.tellR [30, 112] (R' := [(30, RR 22 1 A22 (n_ + 1) c22 (cs_ ++ [.slice A18 ((encI (frI h ((h.x4 % 8192) + ((p_ : Int) / 8) + h.x4 / 8192 % 2 * 8192)) (d.extract (((p_ : Int)).toNat) (((e_ : Int)).toNat))).1.length) c18])), (112, RR 22 1 A21 1 1 [.slice A18 ((encI (frI h ((h.x4 % 8192) + ((p_ : Int) / 8) + h.x4 / 8192 % 2 * 8192)) (d.extract (((p_ : Int)).toNat) (((e_ : Int)).toNat))).1.length) c18])]) rfl ?_
    refine Rn 8 (Qo B85 8147 3) [.loop J8, .blk 1, Qs B85 255] ⟨115, [(6, .own 6 0), (7, VT d), (11, I6 (m_ : Int)), (12, I6 (h.x4 % 8192)), (13, I1 (h.x4 / 8192 % 2 * 8192)), (14, VL A22 (n_ + 1) c22), (15, I6 (p_ : Int)), (69, I6 (IntKind.i64.wrap ((p_ : Int) + (m_ : Int))))], [(6, ⟨113, [I8 h.x0, I8 h.x1, I8 h.x2, I1 h.x3, I1 h.x4, I8 h.x5, I8 h.x6, I8 h.x7, I8 h.x8, I8 h.x9, I8 h.y0, I8 h.y1, I8 h.y2]⟩)]⟩ ?_
    refine Kn 69 .i64 ((p_ + m_ : Nat) : Int) rfl (by rw [wi64 (by omega) (by omega)]; push_cast; rfl) ?_
    refine Rn 2 (.ex .normal) [.loop J8, .blk 1, Qs B85 255] ⟨115, [(6, .own 6 0), (7, VT d), (11, I6 (m_ : Int)), (12, I6 (h.x4 % 8192)), (13, I1 (h.x4 / 8192 % 2 * 8192)), (14, VL A22 (n_ + 1) c22), (15, I6 ((p_ + m_ : Nat) : Int))], [(6, ⟨113, [I8 h.x0, I8 h.x1, I8 h.x2, I1 h.x3, I1 h.x4, I8 h.x5, I8 h.x6, I8 h.x7, I8 h.x8, I8 h.x9, I8 h.y0, I8 h.y1, I8 h.y2]⟩)]⟩ ?_
    refine X.tellR [30] (R' := [(30, RR 22 1 A22 (n_ + 1) c22 (cs_ ++ [.slice A18 ((encI (frI h ((h.x4 % 8192) + ((p_ : Int) / 8) + h.x4 / 8192 % 2 * 8192)) (d.extract (((p_ : Int)).toNat) (((e_ : Int)).toNat))).1.length) c18]))]) rfl ?_
    have hE_ : (encI (frI h ((h.x4 % 8192) + ((p_ : Int) / 8) + h.x4 / 8192 % 2 * 8192)) (d.extract (((p_ : Int)).toNat) (((e_ : Int)).toNat))).1 = prtS h d m_ j_ := part_is (p := p_) (e := e_) hp_ he_ (by rw [if_neg hmo_])
    have hpn_ : p_ + m_ = (j_ + 1) * m_ := by rw [Nat.add_mul, Nat.one_mul, hp_]
    exact X.again (hJ8 _ _ _ _ ⟨A22, c22, (n_ + 1), (j_ + 1), (p_ + m_), cs_ ++ [.slice A18 ((encI (frI h ((h.x4 % 8192) + ((p_ : Int) / 8) + h.x4 / 8192 % 2 * 8192)) (d.extract (((p_ : Int)).toNat) (((e_ : Int)).toNat))).1.length) c18], rfl, rfl, ((hG8.trans hG18).trans hG20), ⟨hpn_, by omega, by rw [hn_], by rw [List.range_succ, List.map_append]; refine repsD.append hcs_ ?_; show repsD _ _ [prtS h d m_ j_] _; rw [← hE_]; exact repsD.single (rep_sliceN rfl hle20 hmx20 hr20)⟩, rfl⟩ (by omega))
  ·
   replace h9 : ¬ ((p_ : Int) < (d.size : Int)) := of_decide_eq_false h9
   refine Rn 14 (.ex .ret) [] ⟨115, [(4, VL B_ n_ c_), (5, I6 0)], []⟩ ?_
   refine Dg (.inl rfl) [.slice B_ n_ c_, N6 0] [30] rfl ((hG1.trans hG8)) ?_
   have hS_ : splS h d mtu = (List.range j_).map (prtS h d m_) := by unfold splS; rw [if_neg (by omega), hms_, nS_is hp_ (by omega) hpl_]
   rw [hS_, List.length_map, List.length_range, ← hn_]
   exact ⟨_, _, _, rfl, rfl, by rw [hn_]; exact hcs_⟩
end Go.Proofs.YtjgpdbkkpomhjaaX
