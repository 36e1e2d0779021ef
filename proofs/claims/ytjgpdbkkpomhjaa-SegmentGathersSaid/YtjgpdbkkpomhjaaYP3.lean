/- leatref13.Gather. Walked; printed by a small program of this session. Conditions: none. -/
import Derived.Test.YtjgpdbkkpomhjaaProg
import Derived.KernelRfl
import Derived.Test.YtjgpdbkkpomhjaaYP1
namespace Go.Proofs.YtjgpdbkkpomhjaaX
open Go.RowKit
open Go.Proofs.YtjgpdbkkpomhjaaW.PrintLast
set_option linter.unusedVariables false
set_option linter.unusedSimpArgs false
set_option maxRecDepth 100000
theorem ba_pos {b : ByteArray} (h : b ≠ (⟨#[]⟩ : ByteArray)) : 0 < b.size := by
 rcases Nat.eq_zero_or_pos b.size with h0 | h0
 · exact absurd (ByteArray.ext (Array.eq_empty_of_size_eq_zero h0)) h
 · exact h0
/-- leat/leatref13.Gather -/
noncomputable def B72 : Code := bodyOf Try.f72
set_option maxHeartbeats 4000000 in
theorem RGather_ok (A : Option Addr) (c : Nat) (l : List Sg) (n : Int) (G : Mem) (hr : rowAt sgD G A l) (hle : l.length ≤ c) (hmx : c ≤ maxLen) (h20 : l.length ≤ 20) (hok : ∀ x ∈ l, okG x) (hn : 0 ≤ n ∧ n ≤ 4294967295) : CallsG Try.prog 72 [.slice A l.length c, .int .u32 n] G (fun _ v rows => ∃ d2 n2, Gd l ⟨#[]⟩ n d2 n2 ∧ v = .tuple #[.string d2, .int .u32 n2, .int .i64 (gapsG l n2 : Nat)] ∧ rows = []) := by
 simp only [maxLen] at hmx
 refine CallsG.enter Try.func72 rfl rfl ?_
 intro w
 refine Rn 15 (Qc B72 13) [Qs B72 7] ⟨113, [(0, VL A l.length c), (1, I3 n), (4, VT (⟨#[]⟩ : ByteArray)), (5, I3 0), (6, I6 0), (17, VB (decide ((l.length : Int) > 256)))], []⟩ ?_
 refine X.isFalse 17 rfl (decide_eq_false (by omega)) ?_
 refine Rn 21 (Qc B72 250) [.blk 0, Qs B72 63] ⟨113, [(0, VL A l.length c), (4, VT (⟨#[]⟩ : ByteArray)), (5, I3 0), (6, I6 0), (7, VT (⟨#[]⟩ : ByteArray)), (8, I3 n), (9, I6 0)], []⟩ ?_
 refine X.loopJ (fun m s R' G' => ∃ (d_ : ByteArray) (x_ : Int) (i_ : Nat), s = ⟨113, [(0, VL A l.length c), (4, VT (⟨#[]⟩ : ByteArray)), (5, I3 0), (6, I6 0), (7, VT d_), (8, I3 x_), (9, I6 (i_ : Int))], []⟩ ∧ R' = [] ∧ Ge G w.heap.size G' ∧ (i_ ≤ l.length ∧ d_.size ≤ 1048576 ∧ (0 ≤ x_ ∧ x_ ≤ 4294967295) ∧ stepG (l.drop i_) d_ x_ = stepG l d_ x_ ∧ (∀ d2_ x2_, Gd l d_ x_ d2_ x2_ → Gd l ⟨#[]⟩ n d2_ x2_)) ∧ m = ((1048577 - d_.size) * 22 + (l.length - i_))) _ ⟨⟨#[]⟩, n, 0, rfl, rfl, Ge.refl _ _, ⟨by omega, by decide, hn, rfl, fun _ _ h_ => h_⟩, rfl⟩ ?_
 rintro m1 s1 R1 G1 ⟨d_, x_, i_, rfl, rfl, hG1, hF1, rfl⟩ J1 hJ1
 replace hr := hr.mono hG1.le
 obtain ⟨hi_, hdm_, hx_, hst_, hgd_⟩ := hF1
 refine Rn 9 (Qc B72 2001) [Qs B72 1001, .loop J1, .blk 0, Qs B72 63] ⟨113, [(0, VL A l.length c), (4, VT (⟨#[]⟩ : ByteArray)), (5, I3 0), (6, I6 0), (7, VT d_), (8, I3 x_), (9, I6 (i_ : Int)), (24, VB (decide ((i_ : Int) < (l.length : Int))))], []⟩ ?_
 refine X.split 24 rfl (fun h2 => ?_) (fun h2 => ?_)
 ·
  replace h2 : (i_ : Int) < ((l.length : Nat) : Int) := of_decide_eq_true h2
  have hil_ : i_ < l.length := by omega
  have hoki_ : okG (l.getD i_ sg1) := sgs_ok hok hil_
  have hoj_ : (l.getD i_ sg1).d.size ≤ 100 := hoki_.2
  have hoj2_ : (l.getD ((i_ : Int)).toNat sg1).d.size ≤ 100 := hoki_.2
  have hsz_ : (l.getD ((i_ : Int)).toNat sg1).d.size = (l.getD i_ sg1).d.size := rfl
  refine Rn 9 (Qo B72 8008 2) [Qs B72 8009, .blk 1, Qs B72 2003, .loop J1, .blk 0, Qs B72 63] ⟨113, [(0, VL A l.length c), (4, VT (⟨#[]⟩ : ByteArray)), (5, I3 0), (6, I6 0), (7, VT d_), (8, I3 x_), (9, I6 (i_ : Int)), (27, VL A l.length c), (28, I6 (i_ : Int))], []⟩ ?_
  have b3 : (0 : Int) ≤ (i_ : Int) := by omega
  have b4 : (i_ : Int) < ((l.length : Nat) : Int) := by omega
  refine Ix 96 82 12 A l.length c .i64 (i_ : Int) (.tmp 27) (.tmp 28) b3 b4 (fun _ _ => rowAt.so hr (by omega)) ?_
  have at5 := At.sg [] hr (((i_ : Int)).toNat) (by omega)
  simp only [sgV] at at5
  refine Rn 0 (Qo B72 8008 3) [Qs B72 8009, .blk 1, Qs B72 2003, .loop J1, .blk 0, Qs B72 63] ⟨113, [(0, VL A l.length c), (4, VT (⟨#[]⟩ : ByteArray)), (5, I3 0), (6, I6 0), (7, VT d_), (8, I3 x_), (9, I6 (i_ : Int)), (29, .v (elt A (((i_ : Int)).toNat * 12)))], []⟩ ?_
  refine Ld 82 A (((i_ : Int)).toNat * 12) (.tmp 29) (.agg #[N1 ((l.getD (((i_ : Int)).toNat) sg1).h.s0), N1 ((l.getD (((i_ : Int)).toNat) sg1).h.s1), N3 ((l.getD (((i_ : Int)).toNat) sg1).h.s2), N3 ((l.getD (((i_ : Int)).toNat) sg1).h.s3), N8 ((l.getD (((i_ : Int)).toNat) sg1).h.s4), N8 ((l.getD (((i_ : Int)).toNat) sg1).h.s5), N8 ((l.getD (((i_ : Int)).toNat) sg1).h.s6), N1 ((l.getD (((i_ : Int)).toNat) sg1).h.s7), N1 ((l.getD (((i_ : Int)).toNat) sg1).h.s8), N1 ((l.getD (((i_ : Int)).toNat) sg1).h.s9), .slice ((l.getD (((i_ : Int)).toNat) sg1).A) ((l.getD (((i_ : Int)).toNat) sg1).n) ((l.getD (((i_ : Int)).toNat) sg1).c), .string ((l.getD (((i_ : Int)).toNat) sg1).d)]) [N1 ((l.getD (((i_ : Int)).toNat) sg1).h.s0), N1 ((l.getD (((i_ : Int)).toNat) sg1).h.s1), N3 ((l.getD (((i_ : Int)).toNat) sg1).h.s2), N3 ((l.getD (((i_ : Int)).toNat) sg1).h.s3), N8 ((l.getD (((i_ : Int)).toNat) sg1).h.s4), N8 ((l.getD (((i_ : Int)).toNat) sg1).h.s5), N8 ((l.getD (((i_ : Int)).toNat) sg1).h.s6), N1 ((l.getD (((i_ : Int)).toNat) sg1).h.s7), N1 ((l.getD (((i_ : Int)).toNat) sg1).h.s8), N1 ((l.getD (((i_ : Int)).toNat) sg1).h.s9), .slice ((l.getD (((i_ : Int)).toNat) sg1).A) ((l.getD (((i_ : Int)).toNat) sg1).n) ((l.getD (((i_ : Int)).toNat) sg1).c), .string ((l.getD (((i_ : Int)).toNat) sg1).d)] at5 ?_
  refine Rn 1 (Qo B72 8008 5) [Qs B72 8009, .blk 1, Qs B72 2003, .loop J1, .blk 0, Qs B72 63] ⟨113, [(0, VL A l.length c), (4, VT (⟨#[]⟩ : ByteArray)), (5, I3 0), (6, I6 0), (7, VT d_), (8, I3 x_), (9, I6 (i_ : Int)), (30, .v (.agg #[N1 ((l.getD (((i_ : Int)).toNat) sg1).h.s0), N1 ((l.getD (((i_ : Int)).toNat) sg1).h.s1), N3 ((l.getD (((i_ : Int)).toNat) sg1).h.s2), N3 ((l.getD (((i_ : Int)).toNat) sg1).h.s3), N8 ((l.getD (((i_ : Int)).toNat) sg1).h.s4), N8 ((l.getD (((i_ : Int)).toNat) sg1).h.s5), N8 ((l.getD (((i_ : Int)).toNat) sg1).h.s6), N1 ((l.getD (((i_ : Int)).toNat) sg1).h.s7), N1 ((l.getD (((i_ : Int)).toNat) sg1).h.s8), N1 ((l.getD (((i_ : Int)).toNat) sg1).h.s9), .slice ((l.getD (((i_ : Int)).toNat) sg1).A) ((l.getD (((i_ : Int)).toNat) sg1).n) ((l.getD (((i_ : Int)).toNat) sg1).c), .string ((l.getD (((i_ : Int)).toNat) sg1).d)])), (31, I3 x_)], []⟩ ?_
  obtain ⟨b_, hb_⟩ : ∃ z_, dif (begS (l.getD i_ sg1)) x_ = z_ := ⟨_, rfl⟩
  have hdr_ := dif_range (begS (l.getD i_ sg1)) x_
  rw [hb_] at hdr_
  have hah_ := from_ok (l.getD (((i_ : Int)).toNat) sg1) G1 x_ hoki_.1 hx_
  rw [show dif (begS (l.getD (((i_ : Int)).toNat) sg1)) x_ = b_ from hb_] at hah_
  refine Cg 126 [.agg #[N1 ((l.getD (((i_ : Int)).toNat) sg1).h.s0), N1 ((l.getD (((i_ : Int)).toNat) sg1).h.s1), N3 ((l.getD (((i_ : Int)).toNat) sg1).h.s2), N3 ((l.getD (((i_ : Int)).toNat) sg1).h.s3), N8 ((l.getD (((i_ : Int)).toNat) sg1).h.s4), N8 ((l.getD (((i_ : Int)).toNat) sg1).h.s5), N8 ((l.getD (((i_ : Int)).toNat) sg1).h.s6), N1 ((l.getD (((i_ : Int)).toNat) sg1).h.s7), N1 ((l.getD (((i_ : Int)).toNat) sg1).h.s8), N1 ((l.getD (((i_ : Int)).toNat) sg1).h.s9), .slice ((l.getD (((i_ : Int)).toNat) sg1).A) ((l.getD (((i_ : Int)).toNat) sg1).n) ((l.getD (((i_ : Int)).toNat) sg1).c), .string ((l.getD (((i_ : Int)).toNat) sg1).d)], N3 x_] 0 (hah_) ?_
  rintro v6 G6 rows6 hG6 ⟨rfl, rfl⟩
  replace hr := hr.mono hG6.le
  refine Rn 9 (Qo B72 32036 3) [Qs B72 32037, Qs B72 16019, .blk 1, Qs B72 2003, .loop J1, .blk 0, Qs B72 63] ⟨113, [(0, VL A l.length c), (4, VT (⟨#[]⟩ : ByteArray)), (5, I3 0), (6, I6 0), (7, VT d_), (8, I3 x_), (9, I6 (i_ : Int)), (10, I6 b_), (35, VB (decide (b_ > 0)))], []⟩ ?_
  refine X.split 35 rfl (fun h7 => ?_) (fun h7 => ?_)
  ·
   replace h7 : b_ > 0 := of_decide_eq_true h7
   refine Rn 29 (Qo B72 2003 2) [.loop J1, .blk 0, Qs B72 63] ⟨113, [(0, VL A l.length c), (4, VT (⟨#[]⟩ : ByteArray)), (5, I3 0), (6, I6 0), (7, VT d_), (8, I3 x_), (9, I6 (i_ : Int)), (26, I6 (IntKind.i64.wrap ((i_ : Int) + 1)))], []⟩ ?_
   refine Kn 26 .i64 ((i_ : Int) + 1) rfl (wi64 (by omega) (by omega)) ?_
   refine Rn 2 (.ex .normal) [.loop J1, .blk 0, Qs B72 63] ⟨113, [(0, VL A l.length c), (4, VT (⟨#[]⟩ : ByteArray)), (5, I3 0), (6, I6 0), (7, VT d_), (8, I3 x_), (9, I6 ((i_ : Int) + 1))], []⟩ ?_
   have hpz2_ : (pcG (l.getD i_ sg1) d_.size x_).size = 0 := by first | exact pcG_none (by rw [hb_]; omega) | exact pcG_full (by omega)
   have hsk_ := stepG_skip (d := d_) (n := x_) hil_ hpz2_
   exact X.again (hJ1 _ _ _ _ ⟨d_, x_, (i_ + 1), rfl, rfl, (hG1.trans hG6), ⟨by omega, by omega, hx_, by rw [← hsk_]; exact hst_, hgd_⟩, rfl⟩ (by omega))
  ·
   replace h7 : ¬ (b_ > 0) := of_decide_eq_false h7
   refine Rn 4 (Qo B72 32036 7) [Qs B72 32037, Qs B72 16019, .blk 1, Qs B72 2003, .loop J1, .blk 0, Qs B72 63] ⟨113, [(0, VL A l.length c), (4, VT (⟨#[]⟩ : ByteArray)), (5, I3 0), (6, I6 0), (7, VT d_), (8, I3 x_), (9, I6 (i_ : Int)), (10, I6 b_), (39, VB (decide (b_ < (-1048576))))], []⟩ ?_
   refine X.split 39 rfl (fun h8 => ?_) (fun h8 => ?_)
   ·
    replace h8 : b_ < (-1048576) := of_decide_eq_true h8
    refine Rn 25 (Qo B72 2003 2) [.loop J1, .blk 0, Qs B72 63] ⟨113, [(0, VL A l.length c), (4, VT (⟨#[]⟩ : ByteArray)), (5, I3 0), (6, I6 0), (7, VT d_), (8, I3 x_), (9, I6 (i_ : Int)), (26, I6 (IntKind.i64.wrap ((i_ : Int) + 1)))], []⟩ ?_
    refine Kn 26 .i64 ((i_ : Int) + 1) rfl (wi64 (by omega) (by omega)) ?_
    refine Rn 2 (.ex .normal) [.loop J1, .blk 0, Qs B72 63] ⟨113, [(0, VL A l.length c), (4, VT (⟨#[]⟩ : ByteArray)), (5, I3 0), (6, I6 0), (7, VT d_), (8, I3 x_), (9, I6 ((i_ : Int) + 1))], []⟩ ?_
    have hpz2_ : (pcG (l.getD i_ sg1) d_.size x_).size = 0 := by first | exact pcG_none (by rw [hb_]; omega) | exact pcG_full (by omega)
    have hsk_ := stepG_skip (d := d_) (n := x_) hil_ hpz2_
    exact X.again (hJ1 _ _ _ _ ⟨d_, x_, (i_ + 1), rfl, rfl, (hG1.trans hG6), ⟨by omega, by omega, hx_, by rw [← hsk_]; exact hst_, hgd_⟩, rfl⟩ (by omega))
   ·
    replace h8 : ¬ (b_ < (-1048576)) := of_decide_eq_false h8
    refine Rn 3 (Qo B72 32036 10) [Qs B72 32037, Qs B72 16019, .blk 1, Qs B72 2003, .loop J1, .blk 0, Qs B72 63] ⟨113, [(0, VL A l.length c), (4, VT (⟨#[]⟩ : ByteArray)), (5, I3 0), (6, I6 0), (7, VT d_), (8, I3 x_), (9, I6 (i_ : Int)), (10, I6 b_), (39, VB false), (40, I6 b_), (41, VL A l.length c), (42, I6 (i_ : Int))], []⟩ ?_
    have b9 : (0 : Int) ≤ (i_ : Int) := by omega
    have b10 : (i_ : Int) < ((l.length : Nat) : Int) := by omega
    refine Ix 96 82 12 A l.length c .i64 (i_ : Int) (.tmp 41) (.tmp 42) b9 b10 (fun _ _ => rowAt.so hr (by omega)) ?_
    have at11 := At.sg [] hr (((i_ : Int)).toNat) (by omega)
    simp only [sgV] at at11
    refine Rn 0 (Qo B72 32036 11) [Qs B72 32037, Qs B72 16019, .blk 1, Qs B72 2003, .loop J1, .blk 0, Qs B72 63] ⟨113, [(0, VL A l.length c), (4, VT (⟨#[]⟩ : ByteArray)), (5, I3 0), (6, I6 0), (7, VT d_), (8, I3 x_), (9, I6 (i_ : Int)), (10, I6 b_), (39, VB false), (40, I6 b_), (43, .v (elt A (((i_ : Int)).toNat * 12)))], []⟩ ?_
    refine X.field (t := 82) (f := 2) (n := 11) (A := A) (j := ((i_ : Int)).toNat * 12) (x := .tmp 43) (by kernel_rfl) (by kernel_rfl) (by kernel_rfl) (by kernel_rfl) ?_
    refine Rn 0 (Qo B72 32036 12) [Qs B72 32037, Qs B72 16019, .blk 1, Qs B72 2003, .loop J1, .blk 0, Qs B72 63] ⟨113, [(0, VL A l.length c), (4, VT (⟨#[]⟩ : ByteArray)), (5, I3 0), (6, I6 0), (7, VT d_), (8, I3 x_), (9, I6 (i_ : Int)), (10, I6 b_), (39, VB false), (40, I6 b_), (44, .v (elt A (((i_ : Int)).toNat * 12 + 11)))], []⟩ ?_
    refine Ld 9 A (((i_ : Int)).toNat * 12 + 11) (.tmp 44) (.string ((l.getD (((i_ : Int)).toNat) sg1).d)) [.string ((l.getD (((i_ : Int)).toNat) sg1).d)] (at11.part 11 1) ?_
    refine Rn 2 (Qo B72 32036 15) [Qs B72 32037, Qs B72 16019, .blk 1, Qs B72 2003, .loop J1, .blk 0, Qs B72 63] ⟨113, [(0, VL A l.length c), (4, VT (⟨#[]⟩ : ByteArray)), (5, I3 0), (6, I6 0), (7, VT d_), (8, I3 x_), (9, I6 (i_ : Int)), (10, I6 b_), (39, VB false), (47, I6 (IntKind.i64.wrap (b_ + (((l.getD (((i_ : Int)).toNat) sg1).d).size : Int))))], []⟩ ?_
    refine Kn 47 .i64 (b_ + ((l.getD i_ sg1).d.size : Int)) rfl (wi64 (by omega) (by omega)) ?_
    refine Rn 3 (Qo B72 32036 18) [Qs B72 32037, Qs B72 16019, .blk 1, Qs B72 2003, .loop J1, .blk 0, Qs B72 63] ⟨113, [(0, VL A l.length c), (4, VT (⟨#[]⟩ : ByteArray)), (5, I3 0), (6, I6 0), (7, VT d_), (8, I3 x_), (9, I6 (i_ : Int)), (10, I6 b_), (50, VB (decide (b_ + ((l.getD i_ sg1).d.size : Int) ≤ 0)))], []⟩ ?_
    refine X.split 50 rfl (fun h12 => ?_) (fun h12 => ?_)
    ·
     replace h12 : b_ + ((l.getD i_ sg1).d.size : Int) ≤ 0 := of_decide_eq_true h12
     refine Rn 14 (Qo B72 2003 2) [.loop J1, .blk 0, Qs B72 63] ⟨113, [(0, VL A l.length c), (4, VT (⟨#[]⟩ : ByteArray)), (5, I3 0), (6, I6 0), (7, VT d_), (8, I3 x_), (9, I6 (i_ : Int)), (26, I6 (IntKind.i64.wrap ((i_ : Int) + 1)))], []⟩ ?_
     refine Kn 26 .i64 ((i_ : Int) + 1) rfl (wi64 (by omega) (by omega)) ?_
     refine Rn 2 (.ex .normal) [.loop J1, .blk 0, Qs B72 63] ⟨113, [(0, VL A l.length c), (4, VT (⟨#[]⟩ : ByteArray)), (5, I3 0), (6, I6 0), (7, VT d_), (8, I3 x_), (9, I6 ((i_ : Int) + 1))], []⟩ ?_
     have hpz2_ : (pcG (l.getD i_ sg1) d_.size x_).size = 0 := by first | exact pcG_none (by rw [hb_]; omega) | exact pcG_full (by omega)
     have hsk_ := stepG_skip (d := d_) (n := x_) hil_ hpz2_
     exact X.again (hJ1 _ _ _ _ ⟨d_, x_, (i_ + 1), rfl, rfl, (hG1.trans hG6), ⟨by omega, by omega, hx_, by rw [← hsk_]; exact hst_, hgd_⟩, rfl⟩ (by omega))
    ·
     replace h12 : ¬ (b_ + ((l.getD i_ sg1).d.size : Int) ≤ 0) := of_decide_eq_false h12
     refine Rn 6 (Qc B72 32037) [Qs B72 16019, .blk 1, Qs B72 2003, .loop J1, .blk 0, Qs B72 63] ⟨113, [(0, VL A l.length c), (4, VT (⟨#[]⟩ : ByteArray)), (5, I3 0), (6, I6 0), (7, VT d_), (8, I3 x_), (9, I6 (i_ : Int)), (10, I6 b_), (54, VB (decide ((d_.size : Int) ≥ 1048576)))], []⟩ ?_
     refine X.split 54 rfl (fun h13 => ?_) (fun h13 => ?_)
     ·
      replace h13 : (d_.size : Int) ≥ 1048576 := of_decide_eq_true h13
      refine Rn 8 (Qo B72 2003 2) [.loop J1, .blk 0, Qs B72 63] ⟨113, [(0, VL A l.length c), (4, VT (⟨#[]⟩ : ByteArray)), (5, I3 0), (6, I6 0), (7, VT d_), (8, I3 x_), (9, I6 (i_ : Int)), (26, I6 (IntKind.i64.wrap ((i_ : Int) + 1)))], []⟩ ?_
      refine Kn 26 .i64 ((i_ : Int) + 1) rfl (wi64 (by omega) (by omega)) ?_
      refine Rn 2 (.ex .normal) [.loop J1, .blk 0, Qs B72 63] ⟨113, [(0, VL A l.length c), (4, VT (⟨#[]⟩ : ByteArray)), (5, I3 0), (6, I6 0), (7, VT d_), (8, I3 x_), (9, I6 ((i_ : Int) + 1))], []⟩ ?_
      have hpz2_ : (pcG (l.getD i_ sg1) d_.size x_).size = 0 := by first | exact pcG_none (by rw [hb_]; omega) | exact pcG_full (by omega)
      have hsk_ := stepG_skip (d := d_) (n := x_) hil_ hpz2_
      exact X.again (hJ1 _ _ _ _ ⟨d_, x_, (i_ + 1), rfl, rfl, (hG1.trans hG6), ⟨by omega, by omega, hx_, by rw [← hsk_]; exact hst_, hgd_⟩, rfl⟩ (by omega))
     ·
      replace h13 : ¬ ((d_.size : Int) ≥ 1048576) := of_decide_eq_false h13
      obtain ⟨p_, hp_⟩ : ∃ z_, pcG (l.getD i_ sg1) d_.size x_ = z_ := ⟨_, rfl⟩
      have hps_ := pcG_size (x := (l.getD i_ sg1)) (z := d_.size) (n := x_) (by rw [hb_]; omega) (by rw [hb_]; omega) (by rw [hb_]; omega)
      have hpe_ := pcG_some (x := (l.getD i_ sg1)) (z := d_.size) (n := x_) (by rw [hb_]; omega) (by rw [hb_]; omega) (by rw [hb_]; omega)
      rw [hp_, hb_] at hps_ hpe_
      refine Rn 7 (Qo B72 32038 2) [Qs B72 32039, .blk 1, Qs B72 2003, .loop J1, .blk 0, Qs B72 63] ⟨113, [(0, VL A l.length c), (4, VT (⟨#[]⟩ : ByteArray)), (5, I3 0), (6, I6 0), (7, VT d_), (8, I3 x_), (9, I6 (i_ : Int)), (10, I6 b_), (55, VL A l.length c), (56, I6 (i_ : Int))], []⟩ ?_
      have b14 : (0 : Int) ≤ (i_ : Int) := by omega
      have b15 : (i_ : Int) < ((l.length : Nat) : Int) := by omega
      refine Ix 96 82 12 A l.length c .i64 (i_ : Int) (.tmp 55) (.tmp 56) b14 b15 (fun _ _ => rowAt.so hr (by omega)) ?_
      have at16 := At.sg [] hr (((i_ : Int)).toNat) (by omega)
      simp only [sgV] at at16
      refine Rn 0 (Qo B72 32038 3) [Qs B72 32039, .blk 1, Qs B72 2003, .loop J1, .blk 0, Qs B72 63] ⟨113, [(0, VL A l.length c), (4, VT (⟨#[]⟩ : ByteArray)), (5, I3 0), (6, I6 0), (7, VT d_), (8, I3 x_), (9, I6 (i_ : Int)), (10, I6 b_), (57, .v (elt A (((i_ : Int)).toNat * 12)))], []⟩ ?_
      refine X.field (t := 82) (f := 2) (n := 11) (A := A) (j := ((i_ : Int)).toNat * 12) (x := .tmp 57) (by kernel_rfl) (by kernel_rfl) (by kernel_rfl) (by kernel_rfl) ?_
      refine Rn 0 (Qo B72 32038 4) [Qs B72 32039, .blk 1, Qs B72 2003, .loop J1, .blk 0, Qs B72 63] ⟨113, [(0, VL A l.length c), (4, VT (⟨#[]⟩ : ByteArray)), (5, I3 0), (6, I6 0), (7, VT d_), (8, I3 x_), (9, I6 (i_ : Int)), (10, I6 b_), (58, .v (elt A (((i_ : Int)).toNat * 12 + 11)))], []⟩ ?_
      refine Ld 9 A (((i_ : Int)).toNat * 12 + 11) (.tmp 58) (.string ((l.getD (((i_ : Int)).toNat) sg1).d)) [.string ((l.getD (((i_ : Int)).toNat) sg1).d)] (at16.part 11 1) ?_
      refine Rn 2 (Qo B72 32038 7) [Qs B72 32039, .blk 1, Qs B72 2003, .loop J1, .blk 0, Qs B72 63] ⟨113, [(0, VL A l.length c), (4, VT (⟨#[]⟩ : ByteArray)), (5, I3 0), (6, I6 0), (7, VT d_), (8, I3 x_), (9, I6 (i_ : Int)), (59, VT ((l.getD (((i_ : Int)).toNat) sg1).d)), (61, I6 (IntKind.i64.wrap (0 - b_)))], []⟩ ?_
      refine Kn 61 .i64 (-b_) rfl (by rw [wi64 (by omega) (by omega)]; omega) ?_
      refine X.cutStr (t := 9) (b := (l.getD (((i_ : Int)).toNat) sg1).d) (x := .tmp 59) (l := (some (.tmp 61))) (h := none) (lv := (some (N6 (-b_)))) (hv := none) (((-b_)).toNat) (((l.getD (((i_ : Int)).toNat) sg1).d).size) (by kernel_rfl) (by kernel_rfl) (by kernel_rfl) (by kernel_rfl) (by kernel_rfl) (by kernel_rfl) (⟨_, _, rfl, by omega, rfl⟩) (rfl) (by first | (omega) | decide) (by first | (omega) | decide) ?_
      obtain ⟨m_, hm_⟩ : ∃ z_, ((l.getD (((i_ : Int)).toNat) sg1).d).extract (((-b_)).toNat) (((l.getD (((i_ : Int)).toNat) sg1).d).size) = z_ := ⟨_, rfl⟩
      have hms_ : m_.size = (l.getD i_ sg1).d.size - (-b_).toNat := by rw [← hm_, ByteArray.size_extract]; exact congrArg (· - _) (Nat.min_self _)
      rw [show (l.getD i_ sg1).d.extract (-b_).toNat (l.getD i_ sg1).d.size = m_ from hm_, ← hms_] at hpe_
      refine X.known 62 (y := VT m_) rfl (congrArg (fun z_ => AV.v (Value.string z_)) (hm_)) ?_
      refine Rn 11 (Qo B72 128156 5) [Qs B72 128157, Qs B72 64079, .blk 1, Qs B72 2003, .loop J1, .blk 0, Qs B72 63] ⟨113, [(0, VL A l.length c), (4, VT (⟨#[]⟩ : ByteArray)), (5, I3 0), (6, I6 0), (7, VT d_), (8, I3 x_), (9, I6 (i_ : Int)), (11, VT m_), (67, I6 (IntKind.i64.wrap ((d_.size : Int) + (m_.size : Int))))], []⟩ ?_
      refine Kn 67 .i64 ((d_.size + m_.size : Nat) : Int) rfl (by rw [wi64 (by omega) (by omega)]; push_cast; rfl) ?_
      refine Rn 3 (Qc B72 128157) [Qs B72 64079, .blk 1, Qs B72 2003, .loop J1, .blk 0, Qs B72 63] ⟨113, [(0, VL A l.length c), (4, VT (⟨#[]⟩ : ByteArray)), (5, I3 0), (6, I6 0), (7, VT d_), (8, I3 x_), (9, I6 (i_ : Int)), (11, VT m_), (68, VB (decide (((d_.size + m_.size : Nat) : Int) > 1048576)))], []⟩ ?_
      refine X.split 68 rfl (fun h17 => ?_) (fun h17 => ?_)
      ·
       replace h17 : ((d_.size + m_.size : Nat) : Int) > 1048576 := of_decide_eq_true h17
       refine Rn 6 (Qo B72 256314 4) [Qs B72 64079, .blk 1, Qs B72 2003, .loop J1, .blk 0, Qs B72 63] ⟨113, [(0, VL A l.length c), (4, VT (⟨#[]⟩ : ByteArray)), (5, I3 0), (6, I6 0), (7, VT d_), (8, I3 x_), (9, I6 (i_ : Int)), (11, VT m_), (69, VT m_), (72, I6 (IntKind.i64.wrap (1048576 - (d_.size : Int))))], []⟩ ?_
       refine Kn 72 .i64 ((1048576 - d_.size : Nat) : Int) rfl (by rw [wi64 (by omega) (by omega)]; omega) ?_
       refine X.cutStr (t := 9) (b := m_) (x := .tmp 69) (l := none) (h := (some (.tmp 72))) (lv := none) (hv := (some (N6 ((1048576 - d_.size : Nat) : Int)))) 0 ((((1048576 - d_.size : Nat) : Int)).toNat) (by kernel_rfl) (by kernel_rfl) (by kernel_rfl) (by kernel_rfl) (by kernel_rfl) (by kernel_rfl) (rfl) (⟨_, _, rfl, by omega, rfl⟩) (by first | (omega) | decide) (by first | (omega) | decide) ?_
       refine X.known 73 (y := VT p_) rfl (congrArg (fun z_ => AV.v (Value.string z_)) (by rw [hpe_, show min m_.size (1048576 - d_.size) = 1048576 - d_.size by omega]; rfl)) ?_
       refine Rn 7 (Qo B72 128158 2) [Qs B72 128159, .blk 1, Qs B72 2003, .loop J1, .blk 0, Qs B72 63] ⟨113, [(0, VL A l.length c), (4, VT (⟨#[]⟩ : ByteArray)), (5, I3 0), (6, I6 0), (7, VT d_), (8, I3 x_), (9, I6 (i_ : Int)), (11, VT p_), (74, VT d_), (75, VT p_)], []⟩ ?_
       refine X.strAdd (t := 9) (t' := 9) (x := .tmp 74) (y := .tmp 75) (a := d_) (b := p_) (by kernel_rfl) (by kernel_rfl) (by kernel_rfl) (by kernel_rfl) (by omega) ?_
       refine Rn 9 (Qo B72 256318 4) [Qs B72 256319, .blk 1, Qs B72 2003, .loop J1, .blk 0, Qs B72 63] ⟨113, [(0, VL A l.length c), (4, VT (⟨#[]⟩ : ByteArray)), (5, I3 0), (6, I6 0), (7, VT (d_ ++ p_)), (8, I3 x_), (9, I6 (i_ : Int)), (77, I3 x_), (80, I3 (IntKind.u32.wrap (p_.size : Int)))], []⟩ ?_
       refine Kn 80 .u32 (p_.size : Int) rfl (by rw [u32_wrap]; omega) ?_
       refine Rn 14 (.ex .normal) [.loop J1, .blk 0, Qs B72 63] ⟨113, [(0, VL A l.length c), (4, VT (⟨#[]⟩ : ByteArray)), (5, I3 0), (6, I6 0), (7, VT (d_ ++ p_)), (8, I3 (IntKind.u32.wrap (x_ + (p_.size : Int)))), (9, I6 0)], []⟩ ?_
       have htk_ := stepG_take (d := d_) (n := x_) hil_ (by rw [hp_]; omega)
       rw [hp_, hst_] at htk_
       exact X.again (hJ1 _ _ _ _ ⟨d_ ++ p_, (IntKind.u32.wrap (x_ + (p_.size : Int))), 0, rfl, rfl, (hG1.trans hG6), ⟨by omega, by rw [ByteArray.size_append]; omega, by rw [u32_wrap]; omega, rfl, fun _ _ h_ => hgd_ _ _ (.step htk_ h_)⟩, rfl⟩ (by rw [ByteArray.size_append]; omega))
      ·
       replace h17 : ¬ (((d_.size + m_.size : Nat) : Int) > 1048576) := of_decide_eq_false h17
       refine X.known 11 (y := VT p_) rfl (congrArg (fun z_ => AV.v (Value.string z_)) (show m_ = p_ by rw [hpe_, show min m_.size (1048576 - d_.size) = m_.size by omega, ByteArray.extract_zero_size])) ?_
       refine Rn 0 (Qc B72 128157) [Qs B72 64079, .blk 1, Qs B72 2003, .loop J1, .blk 0, Qs B72 63] ⟨113, [(0, VL A l.length c), (4, VT (⟨#[]⟩ : ByteArray)), (5, I3 0), (6, I6 0), (7, VT d_), (8, I3 x_), (9, I6 (i_ : Int)), (11, VT p_), (68, VB false)], []⟩ ?_
       refine Rn 7 (Qo B72 128158 2) [Qs B72 128159, .blk 1, Qs B72 2003, .loop J1, .blk 0, Qs B72 63] ⟨113, [(0, VL A l.length c), (4, VT (⟨#[]⟩ : ByteArray)), (5, I3 0), (6, I6 0), (7, VT d_), (8, I3 x_), (9, I6 (i_ : Int)), (11, VT p_), (74, VT d_), (75, VT p_)], []⟩ ?_
       refine X.strAdd (t := 9) (t' := 9) (x := .tmp 74) (y := .tmp 75) (a := d_) (b := p_) (by kernel_rfl) (by kernel_rfl) (by kernel_rfl) (by kernel_rfl) (by omega) ?_
       refine Rn 9 (Qo B72 256318 4) [Qs B72 256319, .blk 1, Qs B72 2003, .loop J1, .blk 0, Qs B72 63] ⟨113, [(0, VL A l.length c), (4, VT (⟨#[]⟩ : ByteArray)), (5, I3 0), (6, I6 0), (7, VT (d_ ++ p_)), (8, I3 x_), (9, I6 (i_ : Int)), (77, I3 x_), (80, I3 (IntKind.u32.wrap (p_.size : Int)))], []⟩ ?_
       refine Kn 80 .u32 (p_.size : Int) rfl (by rw [u32_wrap]; omega) ?_
       refine Rn 14 (.ex .normal) [.loop J1, .blk 0, Qs B72 63] ⟨113, [(0, VL A l.length c), (4, VT (⟨#[]⟩ : ByteArray)), (5, I3 0), (6, I6 0), (7, VT (d_ ++ p_)), (8, I3 (IntKind.u32.wrap (x_ + (p_.size : Int)))), (9, I6 0)], []⟩ ?_
       have htk_ := stepG_take (d := d_) (n := x_) hil_ (by rw [hp_]; omega)
       rw [hp_, hst_] at htk_
       exact X.again (hJ1 _ _ _ _ ⟨d_ ++ p_, (IntKind.u32.wrap (x_ + (p_.size : Int))), 0, rfl, rfl, (hG1.trans hG6), ⟨by omega, by rw [ByteArray.size_append]; omega, by rw [u32_wrap]; omega, rfl, fun _ _ h_ => hgd_ _ _ (.step htk_ h_)⟩, rfl⟩ (by rw [ByteArray.size_append]; omega))
 ·
  replace h2 : ¬ ((i_ : Int) < ((l.length : Nat) : Int)) := of_decide_eq_false h2
  have hie_ : l.length ≤ i_ := by omega
  rw [stepG_end hie_] at hst_
  have hgd2_ := hgd_ _ _ (.stop hst_.symm)
  refine Rn 18 (Qc B72 1018) [.blk 2, Qs B72 255] ⟨113, [(0, VL A l.length c), (4, VT (⟨#[]⟩ : ByteArray)), (5, I3 0), (6, I6 0), (7, VT d_), (8, I3 x_), (12, I6 0), (13, I6 0)], []⟩ ?_
  refine X.loopJ (fun m s R' G' => ∃ (j_ g_ : Nat), s = ⟨113, [(0, VL A l.length c), (4, VT (⟨#[]⟩ : ByteArray)), (5, I3 0), (6, I6 0), (7, VT d_), (8, I3 x_), (12, I6 ((g_ : Nat) : Int)), (13, I6 (j_ : Int))], []⟩ ∧ R' = [] ∧ Ge G1 w.heap.size G' ∧ (j_ ≤ l.length ∧ g_ = gapsG (l.take j_) x_ ∧ g_ ≤ j_) ∧ m = (l.length - j_)) _ ⟨0, 0, rfl, rfl, Ge.refl _ _, ⟨by omega, rfl, by omega⟩, rfl⟩ ?_
  rintro m18 s18 R18 G18 ⟨j_, g_, rfl, rfl, hG18, hF18, rfl⟩ J18 hJ18
  replace hr := hr.mono hG18.le
  obtain ⟨hj_, hg_, hgj_⟩ := hF18
  refine Rn 9 (Qc B72 8145) [Qs B72 4073, .loop J18, .blk 2, Qs B72 255] ⟨113, [(0, VL A l.length c), (4, VT (⟨#[]⟩ : ByteArray)), (5, I3 0), (6, I6 0), (7, VT d_), (8, I3 x_), (12, I6 ((g_ : Nat) : Int)), (13, I6 (j_ : Int)), (85, VB (decide ((j_ : Int) < (l.length : Int))))], []⟩ ?_
  refine X.split 85 rfl (fun h19 => ?_) (fun h19 => ?_)
  ·
   replace h19 : (j_ : Int) < ((l.length : Nat) : Int) := of_decide_eq_true h19
   have hjl_ : j_ < l.length := by omega
   have hoki_ : okG (l.getD j_ sg1) := sgs_ok hok hjl_
   have hsz_ : (l.getD ((j_ : Int)).toNat sg1).d.size = (l.getD j_ sg1).d.size := rfl
   refine Rn 9 (Qo B72 32584 2) [Qs B72 32585, .blk 3, Qs B72 8147, .loop J18, .blk 2, Qs B72 255] ⟨113, [(0, VL A l.length c), (4, VT (⟨#[]⟩ : ByteArray)), (5, I3 0), (6, I6 0), (7, VT d_), (8, I3 x_), (12, I6 ((g_ : Nat) : Int)), (13, I6 (j_ : Int)), (88, VL A l.length c), (89, I6 (j_ : Int))], []⟩ ?_
   have b20 : (0 : Int) ≤ (j_ : Int) := by omega
   have b21 : (j_ : Int) < ((l.length : Nat) : Int) := by omega
   refine Ix 96 82 12 A l.length c .i64 (j_ : Int) (.tmp 88) (.tmp 89) b20 b21 (fun _ _ => rowAt.so hr (by omega)) ?_
   have at22 := At.sg [] hr (((j_ : Int)).toNat) (by omega)
   simp only [sgV] at at22
   refine Rn 0 (Qo B72 32584 3) [Qs B72 32585, .blk 3, Qs B72 8147, .loop J18, .blk 2, Qs B72 255] ⟨113, [(0, VL A l.length c), (4, VT (⟨#[]⟩ : ByteArray)), (5, I3 0), (6, I6 0), (7, VT d_), (8, I3 x_), (12, I6 ((g_ : Nat) : Int)), (13, I6 (j_ : Int)), (90, .v (elt A (((j_ : Int)).toNat * 12)))], []⟩ ?_
   refine Ld 82 A (((j_ : Int)).toNat * 12) (.tmp 90) (.agg #[N1 ((l.getD (((j_ : Int)).toNat) sg1).h.s0), N1 ((l.getD (((j_ : Int)).toNat) sg1).h.s1), N3 ((l.getD (((j_ : Int)).toNat) sg1).h.s2), N3 ((l.getD (((j_ : Int)).toNat) sg1).h.s3), N8 ((l.getD (((j_ : Int)).toNat) sg1).h.s4), N8 ((l.getD (((j_ : Int)).toNat) sg1).h.s5), N8 ((l.getD (((j_ : Int)).toNat) sg1).h.s6), N1 ((l.getD (((j_ : Int)).toNat) sg1).h.s7), N1 ((l.getD (((j_ : Int)).toNat) sg1).h.s8), N1 ((l.getD (((j_ : Int)).toNat) sg1).h.s9), .slice ((l.getD (((j_ : Int)).toNat) sg1).A) ((l.getD (((j_ : Int)).toNat) sg1).n) ((l.getD (((j_ : Int)).toNat) sg1).c), .string ((l.getD (((j_ : Int)).toNat) sg1).d)]) [N1 ((l.getD (((j_ : Int)).toNat) sg1).h.s0), N1 ((l.getD (((j_ : Int)).toNat) sg1).h.s1), N3 ((l.getD (((j_ : Int)).toNat) sg1).h.s2), N3 ((l.getD (((j_ : Int)).toNat) sg1).h.s3), N8 ((l.getD (((j_ : Int)).toNat) sg1).h.s4), N8 ((l.getD (((j_ : Int)).toNat) sg1).h.s5), N8 ((l.getD (((j_ : Int)).toNat) sg1).h.s6), N1 ((l.getD (((j_ : Int)).toNat) sg1).h.s7), N1 ((l.getD (((j_ : Int)).toNat) sg1).h.s8), N1 ((l.getD (((j_ : Int)).toNat) sg1).h.s9), .slice ((l.getD (((j_ : Int)).toNat) sg1).A) ((l.getD (((j_ : Int)).toNat) sg1).n) ((l.getD (((j_ : Int)).toNat) sg1).c), .string ((l.getD (((j_ : Int)).toNat) sg1).d)] at22 ?_
   refine Rn 1 (Qo B72 32584 5) [Qs B72 32585, .blk 3, Qs B72 8147, .loop J18, .blk 2, Qs B72 255] ⟨113, [(0, VL A l.length c), (4, VT (⟨#[]⟩ : ByteArray)), (5, I3 0), (6, I6 0), (7, VT d_), (8, I3 x_), (12, I6 ((g_ : Nat) : Int)), (13, I6 (j_ : Int)), (91, .v (.agg #[N1 ((l.getD (((j_ : Int)).toNat) sg1).h.s0), N1 ((l.getD (((j_ : Int)).toNat) sg1).h.s1), N3 ((l.getD (((j_ : Int)).toNat) sg1).h.s2), N3 ((l.getD (((j_ : Int)).toNat) sg1).h.s3), N8 ((l.getD (((j_ : Int)).toNat) sg1).h.s4), N8 ((l.getD (((j_ : Int)).toNat) sg1).h.s5), N8 ((l.getD (((j_ : Int)).toNat) sg1).h.s6), N1 ((l.getD (((j_ : Int)).toNat) sg1).h.s7), N1 ((l.getD (((j_ : Int)).toNat) sg1).h.s8), N1 ((l.getD (((j_ : Int)).toNat) sg1).h.s9), .slice ((l.getD (((j_ : Int)).toNat) sg1).A) ((l.getD (((j_ : Int)).toNat) sg1).n) ((l.getD (((j_ : Int)).toNat) sg1).c), .string ((l.getD (((j_ : Int)).toNat) sg1).d)])), (92, I3 x_)], []⟩ ?_
   obtain ⟨b_, hb_⟩ : ∃ z_, dif (begS (l.getD j_ sg1)) x_ = z_ := ⟨_, rfl⟩
   have hdr_ := dif_range (begS (l.getD j_ sg1)) x_
   rw [hb_] at hdr_
   have hah_ := from_ok (l.getD (((j_ : Int)).toNat) sg1) G18 x_ hoki_.1 hx_
   rw [show dif (begS (l.getD (((j_ : Int)).toNat) sg1)) x_ = b_ from hb_] at hah_
   refine Cg 126 [.agg #[N1 ((l.getD (((j_ : Int)).toNat) sg1).h.s0), N1 ((l.getD (((j_ : Int)).toNat) sg1).h.s1), N3 ((l.getD (((j_ : Int)).toNat) sg1).h.s2), N3 ((l.getD (((j_ : Int)).toNat) sg1).h.s3), N8 ((l.getD (((j_ : Int)).toNat) sg1).h.s4), N8 ((l.getD (((j_ : Int)).toNat) sg1).h.s5), N8 ((l.getD (((j_ : Int)).toNat) sg1).h.s6), N1 ((l.getD (((j_ : Int)).toNat) sg1).h.s7), N1 ((l.getD (((j_ : Int)).toNat) sg1).h.s8), N1 ((l.getD (((j_ : Int)).toNat) sg1).h.s9), .slice ((l.getD (((j_ : Int)).toNat) sg1).A) ((l.getD (((j_ : Int)).toNat) sg1).n) ((l.getD (((j_ : Int)).toNat) sg1).c), .string ((l.getD (((j_ : Int)).toNat) sg1).d)], N3 x_] 0 (hah_) ?_
   rintro v23 G23 rows23 hG23 ⟨rfl, rfl⟩
   replace hr := hr.mono hG23.le
   refine Rn 8 (Qo B72 65170 3) [Qs B72 65171, .blk 3, Qs B72 8147, .loop J18, .blk 2, Qs B72 255] ⟨113, [(0, VL A l.length c), (4, VT (⟨#[]⟩ : ByteArray)), (5, I3 0), (6, I6 0), (7, VT d_), (8, I3 x_), (12, I6 ((g_ : Nat) : Int)), (13, I6 (j_ : Int)), (14, I6 b_), (96, VB (decide (b_ > 0)))], []⟩ ?_
   refine X.split 96 rfl (fun h24 => ?_) (fun h24 => ?_)
   ·
    replace h24 : b_ > 0 := of_decide_eq_true h24
    refine Rn 4 (Qo B72 65170 7) [Qs B72 65171, .blk 3, Qs B72 8147, .loop J18, .blk 2, Qs B72 255] ⟨113, [(0, VL A l.length c), (4, VT (⟨#[]⟩ : ByteArray)), (5, I3 0), (6, I6 0), (7, VT d_), (8, I3 x_), (12, I6 ((g_ : Nat) : Int)), (13, I6 (j_ : Int)), (100, VB (decide (b_ ≤ 1048576)))], []⟩ ?_
    refine X.split 100 rfl (fun h25 => ?_) (fun h25 => ?_)
    ·
     replace h25 : b_ ≤ 1048576 := of_decide_eq_true h25
     refine Rn 2 (Qo B72 65170 9) [Qs B72 65171, .blk 3, Qs B72 8147, .loop J18, .blk 2, Qs B72 255] ⟨113, [(0, VL A l.length c), (4, VT (⟨#[]⟩ : ByteArray)), (5, I3 0), (6, I6 0), (7, VT d_), (8, I3 x_), (12, I6 ((g_ : Nat) : Int)), (13, I6 (j_ : Int)), (100, VB true), (101, VL A l.length c), (102, I6 (j_ : Int))], []⟩ ?_
     have b26 : (0 : Int) ≤ (j_ : Int) := by omega
     have b27 : (j_ : Int) < ((l.length : Nat) : Int) := by omega
     refine Ix 96 82 12 A l.length c .i64 (j_ : Int) (.tmp 101) (.tmp 102) b26 b27 (fun _ _ => rowAt.so hr (by omega)) ?_
     have at28 := At.sg [] hr (((j_ : Int)).toNat) (by omega)
     simp only [sgV] at at28
     refine Rn 0 (Qo B72 65170 10) [Qs B72 65171, .blk 3, Qs B72 8147, .loop J18, .blk 2, Qs B72 255] ⟨113, [(0, VL A l.length c), (4, VT (⟨#[]⟩ : ByteArray)), (5, I3 0), (6, I6 0), (7, VT d_), (8, I3 x_), (12, I6 ((g_ : Nat) : Int)), (13, I6 (j_ : Int)), (100, VB true), (103, .v (elt A (((j_ : Int)).toNat * 12)))], []⟩ ?_
     refine X.field (t := 82) (f := 2) (n := 11) (A := A) (j := ((j_ : Int)).toNat * 12) (x := .tmp 103) (by kernel_rfl) (by kernel_rfl) (by kernel_rfl) (by kernel_rfl) ?_
     refine Rn 0 (Qo B72 65170 11) [Qs B72 65171, .blk 3, Qs B72 8147, .loop J18, .blk 2, Qs B72 255] ⟨113, [(0, VL A l.length c), (4, VT (⟨#[]⟩ : ByteArray)), (5, I3 0), (6, I6 0), (7, VT d_), (8, I3 x_), (12, I6 ((g_ : Nat) : Int)), (13, I6 (j_ : Int)), (100, VB true), (104, .v (elt A (((j_ : Int)).toNat * 12 + 11)))], []⟩ ?_
     refine Ld 9 A (((j_ : Int)).toNat * 12 + 11) (.tmp 104) (.string ((l.getD (((j_ : Int)).toNat) sg1).d)) [.string ((l.getD (((j_ : Int)).toNat) sg1).d)] (at28.part 11 1) ?_
     refine Rn 4 (Qc B72 65171) [.blk 3, Qs B72 8147, .loop J18, .blk 2, Qs B72 255] ⟨113, [(0, VL A l.length c), (4, VT (⟨#[]⟩ : ByteArray)), (5, I3 0), (6, I6 0), (7, VT d_), (8, I3 x_), (12, I6 ((g_ : Nat) : Int)), (13, I6 (j_ : Int)), (107, VB (!(((l.getD (((j_ : Int)).toNat) sg1).d).toList == (⟨#[]⟩ : ByteArray).toList)))], []⟩ ?_
     refine X.split 107 rfl (fun h29 => ?_) (fun h29 => ?_)
     ·
      replace h29 : (((l.getD (((j_ : Int)).toNat) sg1).d).toList == (⟨#[]⟩ : ByteArray).toList) = false := by first | (simpa using h29; done) | (have h_ := congrArg (fun b_ => !b_) h29; simpa only [Bool.not_not, Bool.not_true, Bool.not_false] using h_)
      replace h29 : ((l.getD (((j_ : Int)).toNat) sg1).d) ≠ (⟨#[]⟩ : ByteArray) := strF h29
      have hz_ : 0 < (l.getD j_ sg1).d.size := ba_pos (show (l.getD j_ sg1).d ≠ (⟨#[]⟩ : ByteArray) from h29)
      refine Rn 4 (Qo B72 130342 2) [.blk 3, Qs B72 8147, .loop J18, .blk 2, Qs B72 255] ⟨113, [(0, VL A l.length c), (4, VT (⟨#[]⟩ : ByteArray)), (5, I3 0), (6, I6 0), (7, VT d_), (8, I3 x_), (12, I6 ((g_ : Nat) : Int)), (13, I6 (j_ : Int)), (109, I6 (IntKind.i64.wrap (((g_ : Nat) : Int) + 1)))], []⟩ ?_
      refine Kn 109 .i64 ((g_ + 1 : Nat) : Int) rfl (by rw [wi64 (by omega) (by omega)]; push_cast; rfl) ?_
      refine Rn 7 (Qo B72 8147 2) [.loop J18, .blk 2, Qs B72 255] ⟨113, [(0, VL A l.length c), (4, VT (⟨#[]⟩ : ByteArray)), (5, I3 0), (6, I6 0), (7, VT d_), (8, I3 x_), (12, I6 ((g_ + 1 : Nat) : Int)), (13, I6 (j_ : Int)), (87, I6 (IntKind.i64.wrap ((j_ : Int) + 1)))], []⟩ ?_
      refine Kn 87 .i64 ((j_ : Int) + 1) rfl (wi64 (by omega) (by omega)) ?_
      refine Rn 2 (.ex .normal) [.loop J18, .blk 2, Qs B72 255] ⟨113, [(0, VL A l.length c), (4, VT (⟨#[]⟩ : ByteArray)), (5, I3 0), (6, I6 0), (7, VT d_), (8, I3 x_), (12, I6 ((g_ + 1 : Nat) : Int)), (13, I6 ((j_ : Int) + 1))], []⟩ ?_
      have hgp_ : (isGap x_ (l.getD j_ sg1) = true) := by
       rw [isGap_eq, hb_]
       exact decide_eq_true (by omega)
      have hgs_ := gaps_step (n := x_) hjl_
      rw [if_pos hgp_, ← hg_] at hgs_
      exact X.again (hJ18 _ _ _ _ ⟨(j_ + 1), (g_ + 1), rfl, rfl, (hG18.trans hG23), ⟨by omega, by omega, by omega⟩, rfl⟩ (by omega))
     ·
      replace h29 : (((l.getD (((j_ : Int)).toNat) sg1).d).toList == (⟨#[]⟩ : ByteArray).toList) = true := by first | (simpa using h29; done) | (have h_ := congrArg (fun b_ => !b_) h29; simpa only [Bool.not_not, Bool.not_true, Bool.not_false] using h_)
      replace h29 : ((l.getD (((j_ : Int)).toNat) sg1).d) = (⟨#[]⟩ : ByteArray) := strT h29
      have hz_ : (l.getD j_ sg1).d.size = 0 := congrArg ByteArray.size (show (l.getD j_ sg1).d = (⟨#[]⟩ : ByteArray) from h29)
      refine Rn 7 (Qo B72 8147 2) [.loop J18, .blk 2, Qs B72 255] ⟨113, [(0, VL A l.length c), (4, VT (⟨#[]⟩ : ByteArray)), (5, I3 0), (6, I6 0), (7, VT d_), (8, I3 x_), (12, I6 ((g_ : Nat) : Int)), (13, I6 (j_ : Int)), (87, I6 (IntKind.i64.wrap ((j_ : Int) + 1)))], []⟩ ?_
      refine Kn 87 .i64 ((j_ : Int) + 1) rfl (wi64 (by omega) (by omega)) ?_
      refine Rn 2 (.ex .normal) [.loop J18, .blk 2, Qs B72 255] ⟨113, [(0, VL A l.length c), (4, VT (⟨#[]⟩ : ByteArray)), (5, I3 0), (6, I6 0), (7, VT d_), (8, I3 x_), (12, I6 ((g_ : Nat) : Int)), (13, I6 ((j_ : Int) + 1))], []⟩ ?_
      have hgp_ : ¬ (isGap x_ (l.getD j_ sg1) = true) := by
       rw [isGap_eq, hb_]
       exact fun h_ => by have h2_ := of_decide_eq_true h_; omega
      have hgs_ := gaps_step (n := x_) hjl_
      rw [if_neg hgp_, ← hg_] at hgs_
      exact X.again (hJ18 _ _ _ _ ⟨(j_ + 1), g_, rfl, rfl, (hG18.trans hG23), ⟨by omega, by omega, by omega⟩, rfl⟩ (by omega))
    ·
     replace h25 : ¬ (b_ ≤ 1048576) := of_decide_eq_false h25
     refine Rn 16 (Qo B72 8147 2) [.loop J18, .blk 2, Qs B72 255] ⟨113, [(0, VL A l.length c), (4, VT (⟨#[]⟩ : ByteArray)), (5, I3 0), (6, I6 0), (7, VT d_), (8, I3 x_), (12, I6 ((g_ : Nat) : Int)), (13, I6 (j_ : Int)), (87, I6 (IntKind.i64.wrap ((j_ : Int) + 1)))], []⟩ ?_
     refine Kn 87 .i64 ((j_ : Int) + 1) rfl (wi64 (by omega) (by omega)) ?_
     refine Rn 2 (.ex .normal) [.loop J18, .blk 2, Qs B72 255] ⟨113, [(0, VL A l.length c), (4, VT (⟨#[]⟩ : ByteArray)), (5, I3 0), (6, I6 0), (7, VT d_), (8, I3 x_), (12, I6 ((g_ : Nat) : Int)), (13, I6 ((j_ : Int) + 1))], []⟩ ?_
     have hgp_ : ¬ (isGap x_ (l.getD j_ sg1) = true) := by
      rw [isGap_eq, hb_]
      exact fun h_ => by have h2_ := of_decide_eq_true h_; omega
     have hgs_ := gaps_step (n := x_) hjl_
     rw [if_neg hgp_, ← hg_] at hgs_
     exact X.again (hJ18 _ _ _ _ ⟨(j_ + 1), g_, rfl, rfl, (hG18.trans hG23), ⟨by omega, by omega, by omega⟩, rfl⟩ (by omega))
   ·
    replace h24 : ¬ (b_ > 0) := of_decide_eq_false h24
    refine Rn 20 (Qo B72 8147 2) [.loop J18, .blk 2, Qs B72 255] ⟨113, [(0, VL A l.length c), (4, VT (⟨#[]⟩ : ByteArray)), (5, I3 0), (6, I6 0), (7, VT d_), (8, I3 x_), (12, I6 ((g_ : Nat) : Int)), (13, I6 (j_ : Int)), (87, I6 (IntKind.i64.wrap ((j_ : Int) + 1)))], []⟩ ?_
    refine Kn 87 .i64 ((j_ : Int) + 1) rfl (wi64 (by omega) (by omega)) ?_
    refine Rn 2 (.ex .normal) [.loop J18, .blk 2, Qs B72 255] ⟨113, [(0, VL A l.length c), (4, VT (⟨#[]⟩ : ByteArray)), (5, I3 0), (6, I6 0), (7, VT d_), (8, I3 x_), (12, I6 ((g_ : Nat) : Int)), (13, I6 ((j_ : Int) + 1))], []⟩ ?_
    have hgp_ : ¬ (isGap x_ (l.getD j_ sg1) = true) := by
     rw [isGap_eq, hb_]
     exact fun h_ => by have h2_ := of_decide_eq_true h_; omega
    have hgs_ := gaps_step (n := x_) hjl_
    rw [if_neg hgp_, ← hg_] at hgs_
    exact X.again (hJ18 _ _ _ _ ⟨(j_ + 1), g_, rfl, rfl, (hG18.trans hG23), ⟨by omega, by omega, by omega⟩, rfl⟩ (by omega))
  ·
   replace h19 : ¬ ((j_ : Int) < ((l.length : Nat) : Int)) := of_decide_eq_false h19
   have hje_ : l.length ≤ j_ := by omega
   rw [gaps_all hje_] at hg_
   refine Rn 17 (.ex .ret) [] ⟨113, [(4, VT d_), (5, I3 x_), (6, I6 ((g_ : Nat) : Int))], []⟩ ?_
   refine Dg (.inl rfl) [.string d_, N3 x_, N6 ((g_ : Nat) : Int)] [] rfl ((hG1.trans hG18)) ?_
   rw [hg_]
   exact ⟨_, _, hgd2_, rfl, rfl⟩
end Go.Proofs.YtjgpdbkkpomhjaaX
