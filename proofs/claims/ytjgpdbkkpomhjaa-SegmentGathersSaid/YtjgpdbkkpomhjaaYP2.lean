/- segment.Gather. Walked; printed by a small program of this session. Conditions: none. -/
import Derived.Test.YtjgpdbkkpomhjaaProg
import Derived.KernelRfl
import Derived.Test.YtjgpdbkkpomhjaaYP1
namespace Go.Proofs.YtjgpdbkkpomhjaaX
open Go.RowKit
open Go.Proofs.YtjgpdbkkpomhjaaW.PrintLast
set_option linter.unusedVariables false
set_option linter.unusedSimpArgs false
set_option maxRecDepth 100000
/-- leat/segment.Gather-1 -/
noncomputable def B123 : Code := bodyOf Try.f123
/-- leat/segment.Gather -/
noncomputable def B71 : Code := bodyOf Try.f71
noncomputable def C71 : Code := scopeOf (cA B71 [1])
set_option maxHeartbeats 4000000 in
theorem Gather_ok (A : Option Addr) (c : Nat) (l : List Sg) (n : Int) (G : Mem) (hr : rowAt sgD G A l) (hle : l.length ≤ c) (hmx : c ≤ maxLen) (h20 : l.length ≤ 20) (hok : ∀ x ∈ l, okG x) (hn : 0 ≤ n ∧ n ≤ 4294967295) : CallsG Try.prog 71 [.slice A l.length c, .int .u32 n] G (fun _ v rows => ∃ d2 n2, Gd l ⟨#[]⟩ n d2 n2 ∧ v = .tuple #[.string d2, .int .u32 n2, .int .i64 (gapsG l n2 : Nat)] ∧ rows = []) := by
 simp only [maxLen] at hmx
 refine CallsG.enter Try.func71 rfl rfl ?_
 intro w
 refine Rn 7 (Qc B71 3) [] ⟨62, [(0, VL A l.length c), (1, I3 n), (4, VT (⟨#[]⟩ : ByteArray)), (5, I3 0), (6, I6 0)], []⟩ ?_
 refine X.scope (c' := C71) (by kernel_rfl) ?_
 refine Rn 6 (.ops (aA C71 [0]) (oA C71 [0] 4 :: lA C71 [0] 5)) [.seq (cA C71 [1])] ⟨62, [(0, VL A l.length c), (1, I3 n), (4, VT (⟨#[]⟩ : ByteArray)), (5, I3 0), (6, I6 0), (16, VL A l.length c), (19, I6 (imin (l.length : Int) 256))], []⟩ ?_
 refine Kn 19 .i64 (l.length : Int) rfl (by simp only [imin_eq]; omega) ?_
 have hlo1 : 0 ≤ ((l.length : Int)).toNat := by omega
 have hhi1 : ((l.length : Int)).toNat ≤ l.length := by omega
 refine X.cut (t := 96) (e := 82) (sz := 12) (n := l.length) (c := c) (A := A) (x := .tmp 16) (l := none) (h := (some (.tmp 19))) (lv := none) (hv := (some (N6 (l.length : Int)))) 0 (((l.length : Int)).toNat) (by kernel_rfl) (by kernel_rfl) (by kernel_rfl) (by kernel_rfl) (by kernel_rfl) (by kernel_rfl) (by kernel_rfl) (rfl) (⟨_, _, rfl, by omega, rfl⟩) hlo1 (Nat.le_trans hhi1 hle) ?_
 obtain ⟨A1, hA1⟩ : ∃ A_, cutA A c 0 12 = A_ := ⟨_, rfl⟩
 obtain ⟨ys1, hys1⟩ : ∃ l_, (l.take (((l.length : Int)).toNat)).drop 0 = l_ := ⟨_, rfl⟩
 have hr1 : rowAt sgD G (cutA A c 0 12) ((l.take (((l.length : Int)).toNat)).drop 0) := rowAt_cut hr hlo1 hhi1 hle
 have hl1 : (((l.length : Int)).toNat) - 0 = ys1.length := by rw [← hys1, List.length_drop, List.length_take]; omega
 have hc1 : ys1.length ≤ c - 0 := by omega
 have hm1 : c - 0 ≤ maxLen := Nat.le_trans (Nat.sub_le _ _) hmx
 rw [hys1, show cutA A c 0 _ = A1 from hA1] at hr1
 rw [hA1, hl1]
 have hy_ : ys1 = l := by rw [← hys1, show ((l.length : Int)).toNat = l.length from rfl, List.take_length, List.drop_zero]
 rw [← hy_] at hok h20
 rw [← hy_]
 refine Rn 26 (.code (cA C71 [1, 1, 1, 1, 1, 0, 0])) [.blk 0, .seq (cA C71 [1, 1, 1, 1, 1, 1])] ⟨62, [(0, VL A1 ys1.length (c - 0)), (4, VT (⟨#[]⟩ : ByteArray)), (5, I3 0), (6, I6 0), (7, .own 7 0), (8, .own 8 0), (9, .fn 123 [(8, 0), (7, 0)])], [(7, ⟨22, [VL none 0 0]⟩), (8, ⟨29, [I3 n]⟩)]⟩ ?_
 refine X.nilRow 300 5 1 rfl ?_
 refine X.loopJ (fun m s R' G' => ∃ (B_ : Option Addr) (c_ n_ : Nat) (d_ : ByteArray) (x_ : Int), s = ⟨62, [(0, VL A1 ys1.length (c - 0)), (4, VT (⟨#[]⟩ : ByteArray)), (5, I3 0), (6, I6 0), (7, .own 7 0), (8, .own 8 0), (9, .fn 123 [(8, 0), (7, 0)])], [(7, ⟨22, [VL B_ n_ c_]⟩), (8, ⟨29, [I3 x_]⟩)]⟩ ∧ R' = [(300, RR 5 1 B_ n_ c_ ((bytesL d_).map (Value.int .u8)))] ∧ Ge G w.heap.size G' ∧ (n_ = d_.size ∧ d_.size ≤ 1048576 ∧ (0 ≤ x_ ∧ x_ ≤ 4294967295) ∧ (∀ d2_ x2_, Gd ys1 d_ x_ d2_ x2_ → Gd ys1 ⟨#[]⟩ n d2_ x2_)) ∧ m = (1048577 - d_.size)) _ ⟨none, 0, 0, ⟨#[]⟩, n, rfl, rfl, Ge.refl _ _, ⟨rfl, by decide, hn, fun _ _ h_ => h_⟩, rfl⟩ ?_
 rintro m2 s2 R2 G2 ⟨B_, c_, n_, d_, x_, rfl, rfl, hG2, hF2, rfl⟩ J2 hJ2
 replace hr := hr.mono hG2.le
 replace hr1 := hr1.mono hG2.le
 obtain ⟨hnd_, hdm_, hx_, hgd_⟩ := hF2
 refine Rn 10 (.code (cA C71 [1, 1, 1, 1, 1, 0, 0, 0, 0, 0, 1, 0])) [.blk 2, .seq (cA C71 [1, 1, 1, 1, 1, 0, 0, 0, 0, 1]), .blk 1, .loop J2, .blk 0, .seq (cA C71 [1, 1, 1, 1, 1, 1])] ⟨62, [(0, VL A1 ys1.length (c - 0)), (4, VT (⟨#[]⟩ : ByteArray)), (5, I3 0), (6, I6 0), (7, .own 7 0), (8, .own 8 0), (9, .fn 123 [(8, 0), (7, 0)]), (23, VL A1 ys1.length (c - 0)), (24, I6 (ys1.length : Int)), (25, I6 0)], [(7, ⟨22, [VL B_ n_ c_]⟩), (8, ⟨29, [I3 x_]⟩)]⟩ ?_
 refine X.loopJ (fun m s R' G' => ∃ (B2_ : Option Addr) (c2_ n2_ : Nat) (i_ : Nat), s = ⟨62, [(0, VL A1 ys1.length (c - 0)), (4, VT (⟨#[]⟩ : ByteArray)), (5, I3 0), (6, I6 0), (7, .own 7 0), (8, .own 8 0), (9, .fn 123 [(8, 0), (7, 0)]), (23, VL A1 ys1.length (c - 0)), (24, I6 (ys1.length : Int)), (25, I6 (i_ : Int))], [(7, ⟨22, [VL B2_ n2_ c2_]⟩), (8, ⟨29, [I3 x_]⟩)]⟩ ∧ R' = [(300, RR 5 1 B2_ n2_ c2_ ((bytesL d_).map (Value.int .u8)))] ∧ Ge G2 w.heap.size G' ∧ (i_ ≤ ys1.length ∧ n2_ = d_.size ∧ stepG (ys1.drop i_) d_ x_ = stepG ys1 d_ x_) ∧ m = (ys1.length - i_)) _ ⟨B_, c_, n_, 0, rfl, rfl, Ge.refl _ _, ⟨by omega, by assumption, rfl⟩, rfl⟩ ?_
 rintro m3 s3 R3 G3 ⟨B2_, c2_, n2_, i_, rfl, rfl, hG3, hF3, rfl⟩ J3 hJ3
 replace hr := hr.mono hG3.le
 replace hr1 := hr1.mono hG3.le
 obtain ⟨hi_, hn2_, hst_⟩ := hF3
 refine Rn 6 (.code (cA C71 [1, 1, 1, 1, 1, 0, 0, 0, 0, 0, 1, 0, 0, 1, 0])) [.seq (cA C71 [1, 1, 1, 1, 1, 0, 0, 0, 0, 0, 1, 0, 0, 1, 1]), .loop J3, .blk 2, .seq (cA C71 [1, 1, 1, 1, 1, 0, 0, 0, 0, 1]), .blk 1, .loop J2, .blk 0, .seq (cA C71 [1, 1, 1, 1, 1, 1])] ⟨62, [(0, VL A1 ys1.length (c - 0)), (4, VT (⟨#[]⟩ : ByteArray)), (5, I3 0), (6, I6 0), (7, .own 7 0), (8, .own 8 0), (9, .fn 123 [(8, 0), (7, 0)]), (23, VL A1 ys1.length (c - 0)), (24, I6 (ys1.length : Int)), (25, I6 (i_ : Int)), (26, VB (decide ((i_ : Int) < (ys1.length : Int))))], [(7, ⟨22, [VL B2_ n2_ c2_]⟩), (8, ⟨29, [I3 x_]⟩)]⟩ ?_
 refine X.split 26 rfl (fun h4 => ?_) (fun h4 => ?_)
 ·
  replace h4 : (i_ : Int) < ((ys1.length : Nat) : Int) := of_decide_eq_true h4
  have hil_ : i_ < ys1.length := by omega
  have hoki_ : okG (ys1.getD i_ sg1) := sgs_ok hok hil_
  have hoj_ : (ys1.getD i_ sg1).d.size ≤ 100 := hoki_.2
  have hoj2_ : (ys1.getD ((i_ : Int)).toNat sg1).d.size ≤ 100 := hoki_.2
  have hsz_ : (ys1.getD ((i_ : Int)).toNat sg1).d.size = (ys1.getD i_ sg1).d.size := rfl
  refine Rn 7 (.ops (aA C71 [1, 1, 1, 1, 1, 0, 0, 0, 0, 0, 1, 0, 0, 1, 1, 0, 0, 0]) (oA C71 [1, 1, 1, 1, 1, 0, 0, 0, 0, 0, 1, 0, 0, 1, 1, 0, 0, 0] 0 :: lA C71 [1, 1, 1, 1, 1, 0, 0, 0, 0, 0, 1, 0, 0, 1, 1, 0, 0, 0] 1)) [.seq (cA C71 [1, 1, 1, 1, 1, 0, 0, 0, 0, 0, 1, 0, 0, 1, 1, 0, 0, 1]), .blk 3, .seq (cA C71 [1, 1, 1, 1, 1, 0, 0, 0, 0, 0, 1, 0, 0, 1, 1, 1]), .loop J3, .blk 2, .seq (cA C71 [1, 1, 1, 1, 1, 0, 0, 0, 0, 1]), .blk 1, .loop J2, .blk 0, .seq (cA C71 [1, 1, 1, 1, 1, 1])] ⟨62, [(0, VL A1 ys1.length (c - 0)), (4, VT (⟨#[]⟩ : ByteArray)), (5, I3 0), (6, I6 0), (7, .own 7 0), (8, .own 8 0), (9, .fn 123 [(8, 0), (7, 0)]), (23, VL A1 ys1.length (c - 0)), (24, I6 (ys1.length : Int)), (25, I6 (i_ : Int))], [(7, ⟨22, [VL B2_ n2_ c2_]⟩), (8, ⟨29, [I3 x_]⟩)]⟩ ?_
  have b5 : (0 : Int) ≤ (i_ : Int) := by omega
  have b6 : (i_ : Int) < ((ys1.length : Nat) : Int) := by omega
  refine Ix 96 82 12 A1 ys1.length (c - 0) .i64 (i_ : Int) (.tmp 23) (.tmp 25) b5 b6 (fun _ _ => rowAt.so hr1 (by omega)) ?_
  have at7 := At.sg [(300, ⟨5, 1, .slice B2_ n2_ c2_, n2_, (bytesL d_).map (Value.int .u8)⟩)] hr1 (((i_ : Int)).toNat) (by omega)
  simp only [sgV] at at7
  refine Ld 82 A1 (((i_ : Int)).toNat * 12) (.tmp 27) (.agg #[N1 ((ys1.getD (((i_ : Int)).toNat) sg1).h.s0), N1 ((ys1.getD (((i_ : Int)).toNat) sg1).h.s1), N3 ((ys1.getD (((i_ : Int)).toNat) sg1).h.s2), N3 ((ys1.getD (((i_ : Int)).toNat) sg1).h.s3), N8 ((ys1.getD (((i_ : Int)).toNat) sg1).h.s4), N8 ((ys1.getD (((i_ : Int)).toNat) sg1).h.s5), N8 ((ys1.getD (((i_ : Int)).toNat) sg1).h.s6), N1 ((ys1.getD (((i_ : Int)).toNat) sg1).h.s7), N1 ((ys1.getD (((i_ : Int)).toNat) sg1).h.s8), N1 ((ys1.getD (((i_ : Int)).toNat) sg1).h.s9), .slice ((ys1.getD (((i_ : Int)).toNat) sg1).A) ((ys1.getD (((i_ : Int)).toNat) sg1).n) ((ys1.getD (((i_ : Int)).toNat) sg1).c), .string ((ys1.getD (((i_ : Int)).toNat) sg1).d)]) [N1 ((ys1.getD (((i_ : Int)).toNat) sg1).h.s0), N1 ((ys1.getD (((i_ : Int)).toNat) sg1).h.s1), N3 ((ys1.getD (((i_ : Int)).toNat) sg1).h.s2), N3 ((ys1.getD (((i_ : Int)).toNat) sg1).h.s3), N8 ((ys1.getD (((i_ : Int)).toNat) sg1).h.s4), N8 ((ys1.getD (((i_ : Int)).toNat) sg1).h.s5), N8 ((ys1.getD (((i_ : Int)).toNat) sg1).h.s6), N1 ((ys1.getD (((i_ : Int)).toNat) sg1).h.s7), N1 ((ys1.getD (((i_ : Int)).toNat) sg1).h.s8), N1 ((ys1.getD (((i_ : Int)).toNat) sg1).h.s9), .slice ((ys1.getD (((i_ : Int)).toNat) sg1).A) ((ys1.getD (((i_ : Int)).toNat) sg1).n) ((ys1.getD (((i_ : Int)).toNat) sg1).c), .string ((ys1.getD (((i_ : Int)).toNat) sg1).d)] at7 ?_
  refine Rn 8 (.ops (aA C71 [1, 1, 1, 1, 1, 0, 0, 0, 0, 0, 1, 0, 0, 1, 1, 0, 0, 1, 0]) (oA C71 [1, 1, 1, 1, 1, 0, 0, 0, 0, 0, 1, 0, 0, 1, 1, 0, 0, 1, 0] 2 :: lA C71 [1, 1, 1, 1, 1, 0, 0, 0, 0, 0, 1, 0, 0, 1, 1, 0, 0, 1, 0] 3)) [.seq (cA C71 [1, 1, 1, 1, 1, 0, 0, 0, 0, 0, 1, 0, 0, 1, 1, 0, 0, 1, 1]), .blk 3, .seq (cA C71 [1, 1, 1, 1, 1, 0, 0, 0, 0, 0, 1, 0, 0, 1, 1, 1]), .loop J3, .blk 2, .seq (cA C71 [1, 1, 1, 1, 1, 0, 0, 0, 0, 1]), .blk 1, .loop J2, .blk 0, .seq (cA C71 [1, 1, 1, 1, 1, 1])] ⟨62, [(0, VL A1 ys1.length (c - 0)), (4, VT (⟨#[]⟩ : ByteArray)), (5, I3 0), (6, I6 0), (7, .own 7 0), (8, .own 8 0), (9, .fn 123 [(8, 0), (7, 0)]), (23, VL A1 ys1.length (c - 0)), (24, I6 (ys1.length : Int)), (25, I6 (i_ : Int)), (29, .fn 123 [(8, 0), (7, 0)]), (30, .v (.agg #[N1 ((ys1.getD (((i_ : Int)).toNat) sg1).h.s0), N1 ((ys1.getD (((i_ : Int)).toNat) sg1).h.s1), N3 ((ys1.getD (((i_ : Int)).toNat) sg1).h.s2), N3 ((ys1.getD (((i_ : Int)).toNat) sg1).h.s3), N8 ((ys1.getD (((i_ : Int)).toNat) sg1).h.s4), N8 ((ys1.getD (((i_ : Int)).toNat) sg1).h.s5), N8 ((ys1.getD (((i_ : Int)).toNat) sg1).h.s6), N1 ((ys1.getD (((i_ : Int)).toNat) sg1).h.s7), N1 ((ys1.getD (((i_ : Int)).toNat) sg1).h.s8), N1 ((ys1.getD (((i_ : Int)).toNat) sg1).h.s9), .slice ((ys1.getD (((i_ : Int)).toNat) sg1).A) ((ys1.getD (((i_ : Int)).toNat) sg1).n) ((ys1.getD (((i_ : Int)).toNat) sg1).c), .string ((ys1.getD (((i_ : Int)).toNat) sg1).d)]))], [(7, ⟨22, [VL B2_ n2_ c2_]⟩), (8, ⟨29, [I3 x_]⟩)]⟩ ?_
  refine X.inline (f := 123) (l := [.v (.agg #[N1 ((ys1.getD (((i_ : Int)).toNat) sg1).h.s0), N1 ((ys1.getD (((i_ : Int)).toNat) sg1).h.s1), N3 ((ys1.getD (((i_ : Int)).toNat) sg1).h.s2), N3 ((ys1.getD (((i_ : Int)).toNat) sg1).h.s3), N8 ((ys1.getD (((i_ : Int)).toNat) sg1).h.s4), N8 ((ys1.getD (((i_ : Int)).toNat) sg1).h.s5), N8 ((ys1.getD (((i_ : Int)).toNat) sg1).h.s6), N1 ((ys1.getD (((i_ : Int)).toNat) sg1).h.s7), N1 ((ys1.getD (((i_ : Int)).toNat) sg1).h.s8), N1 ((ys1.getD (((i_ : Int)).toNat) sg1).h.s9), .slice ((ys1.getD (((i_ : Int)).toNat) sg1).A) ((ys1.getD (((i_ : Int)).toNat) sg1).n) ((ys1.getD (((i_ : Int)).toNat) sg1).c), .string ((ys1.getD (((i_ : Int)).toNat) sg1).d)]), .own 8 0, .own 7 0]) (fn := Try.f123) (c := B123) (by kernel_rfl) (by kernel_rfl) Try.func123 (by kernel_rfl) ?_
  intro Q8 M8 hM8 hQ8 fin8
  refine Rn 7 (Qc B123 6) [Qs B123 7] ⟨48, [(1, .own 1008 0), (2, .own 1007 0), (3, .own 3 0), (4, VB false)], [(3, ⟨82, [I1 ((ys1.getD (((i_ : Int)).toNat) sg1).h.s0), I1 ((ys1.getD (((i_ : Int)).toNat) sg1).h.s1), I3 ((ys1.getD (((i_ : Int)).toNat) sg1).h.s2), I3 ((ys1.getD (((i_ : Int)).toNat) sg1).h.s3), I8 ((ys1.getD (((i_ : Int)).toNat) sg1).h.s4), I8 ((ys1.getD (((i_ : Int)).toNat) sg1).h.s5), I8 ((ys1.getD (((i_ : Int)).toNat) sg1).h.s6), I1 ((ys1.getD (((i_ : Int)).toNat) sg1).h.s7), I1 ((ys1.getD (((i_ : Int)).toNat) sg1).h.s8), I1 ((ys1.getD (((i_ : Int)).toNat) sg1).h.s9), VL ((ys1.getD (((i_ : Int)).toNat) sg1).A) ((ys1.getD (((i_ : Int)).toNat) sg1).n) ((ys1.getD (((i_ : Int)).toNat) sg1).c), VT ((ys1.getD (((i_ : Int)).toNat) sg1).d)]⟩), (1007, ⟨22, [VL B2_ n2_ c2_]⟩), (1008, ⟨29, [I3 x_]⟩)]⟩ ?_
  have hr_d9 := hr
  have hr1_d9 := hr1
  refine Og 1 B123 6 6 [⟨some 1, 1008, 29, [I3 x_]⟩, ⟨some 3, 3, 82, [I1 ((ys1.getD (((i_ : Int)).toNat) sg1).h.s0), I1 ((ys1.getD (((i_ : Int)).toNat) sg1).h.s1), I3 ((ys1.getD (((i_ : Int)).toNat) sg1).h.s2), I3 ((ys1.getD (((i_ : Int)).toNat) sg1).h.s3), I8 ((ys1.getD (((i_ : Int)).toNat) sg1).h.s4), I8 ((ys1.getD (((i_ : Int)).toNat) sg1).h.s5), I8 ((ys1.getD (((i_ : Int)).toNat) sg1).h.s6), I1 ((ys1.getD (((i_ : Int)).toNat) sg1).h.s7), I1 ((ys1.getD (((i_ : Int)).toNat) sg1).h.s8), I1 ((ys1.getD (((i_ : Int)).toNat) sg1).h.s9), VL ((ys1.getD (((i_ : Int)).toNat) sg1).A) ((ys1.getD (((i_ : Int)).toNat) sg1).n) ((ys1.getD (((i_ : Int)).toNat) sg1).c), VT ((ys1.getD (((i_ : Int)).toNat) sg1).d)]⟩] [] [] ⟨⟨fun _ h => (by cases h; rfl), rfl⟩, ⟨fun _ h => (by cases h; rfl), rfl⟩, trivial⟩ (by intro p hp hn; simp only [List.mem_cons, List.not_mem_nil, or_false] at hp; rcases hp with rfl | rfl <;> first | (cases hn; done) | exact hM8 _ (Nat.le_of_ble_eq_true rfl)) (fun ρ0 => ?_)
  refine Ts [0, 2] 6 5 4 6 hQ8 ?_
  refine Dn ⟨48, [(1, .own 1008 0), (2, .own 1007 0), (3, .own 3 0), (4, VB false), (7, .v (.agg #[N1 ((ys1.getD (((i_ : Int)).toNat) sg1).h.s0), N1 ((ys1.getD (((i_ : Int)).toNat) sg1).h.s1), N3 ((ys1.getD (((i_ : Int)).toNat) sg1).h.s2), N3 ((ys1.getD (((i_ : Int)).toNat) sg1).h.s3), N8 ((ys1.getD (((i_ : Int)).toNat) sg1).h.s4), N8 ((ys1.getD (((i_ : Int)).toNat) sg1).h.s5), N8 ((ys1.getD (((i_ : Int)).toNat) sg1).h.s6), N1 ((ys1.getD (((i_ : Int)).toNat) sg1).h.s7), N1 ((ys1.getD (((i_ : Int)).toNat) sg1).h.s8), N1 ((ys1.getD (((i_ : Int)).toNat) sg1).h.s9), .slice ((ys1.getD (((i_ : Int)).toNat) sg1).A) ((ys1.getD (((i_ : Int)).toNat) sg1).n) ((ys1.getD (((i_ : Int)).toNat) sg1).c), .string ((ys1.getD (((i_ : Int)).toNat) sg1).d)])), (9, I3 x_)], [(3, ⟨82, [I1 ((ys1.getD (((i_ : Int)).toNat) sg1).h.s0), I1 ((ys1.getD (((i_ : Int)).toNat) sg1).h.s1), I3 ((ys1.getD (((i_ : Int)).toNat) sg1).h.s2), I3 ((ys1.getD (((i_ : Int)).toNat) sg1).h.s3), I8 ((ys1.getD (((i_ : Int)).toNat) sg1).h.s4), I8 ((ys1.getD (((i_ : Int)).toNat) sg1).h.s5), I8 ((ys1.getD (((i_ : Int)).toNat) sg1).h.s6), I1 ((ys1.getD (((i_ : Int)).toNat) sg1).h.s7), I1 ((ys1.getD (((i_ : Int)).toNat) sg1).h.s8), I1 ((ys1.getD (((i_ : Int)).toNat) sg1).h.s9), VL ((ys1.getD (((i_ : Int)).toNat) sg1).A) ((ys1.getD (((i_ : Int)).toNat) sg1).n) ((ys1.getD (((i_ : Int)).toNat) sg1).c), VT ((ys1.getD (((i_ : Int)).toNat) sg1).d)]⟩), (1007, ⟨22, [VL B2_ n2_ c2_]⟩), (1008, ⟨29, [I3 x_]⟩)]⟩ ⟨⟨fun _ h => (by cases h; rfl), rfl⟩, ⟨fun _ h => (by cases h; rfl), rfl⟩, trivial⟩ ?_
  refine Do 1 6 7 B123 6 ?_
  refine Cg 125 [.agg #[N1 ((ys1.getD (((i_ : Int)).toNat) sg1).h.s0), N1 ((ys1.getD (((i_ : Int)).toNat) sg1).h.s1), N3 ((ys1.getD (((i_ : Int)).toNat) sg1).h.s2), N3 ((ys1.getD (((i_ : Int)).toNat) sg1).h.s3), N8 ((ys1.getD (((i_ : Int)).toNat) sg1).h.s4), N8 ((ys1.getD (((i_ : Int)).toNat) sg1).h.s5), N8 ((ys1.getD (((i_ : Int)).toNat) sg1).h.s6), N1 ((ys1.getD (((i_ : Int)).toNat) sg1).h.s7), N1 ((ys1.getD (((i_ : Int)).toNat) sg1).h.s8), N1 ((ys1.getD (((i_ : Int)).toNat) sg1).h.s9), .slice ((ys1.getD (((i_ : Int)).toNat) sg1).A) ((ys1.getD (((i_ : Int)).toNat) sg1).n) ((ys1.getD (((i_ : Int)).toNat) sg1).c), .string ((ys1.getD (((i_ : Int)).toNat) sg1).d)]] 0 (begin_ok (ys1.getD (((i_ : Int)).toNat) sg1) _ hoki_.1) ?_
  rintro v10 G10 rows10 hG10 ⟨rfl, rfl⟩
  replace hr := hr.mono hG10.le
  replace hr1 := hr1.mono hG10.le
  refine X.back ⟨⟨⟨fun _ h => (by cases h; rfl), rfl⟩, ⟨fun _ h => (by cases h; rfl), rfl⟩, trivial⟩, hG10.le, rfl, ?_⟩
  refine Dn ⟨48, [(1, .own 1008 0), (2, .own 1007 0), (3, .own 3 0), (4, VB false), (8, I3 (begS (ys1.getD (((i_ : Int)).toNat) sg1))), (9, I3 x_)], [(3, ⟨82, [I1 ((ys1.getD (((i_ : Int)).toNat) sg1).h.s0), I1 ((ys1.getD (((i_ : Int)).toNat) sg1).h.s1), I3 ((ys1.getD (((i_ : Int)).toNat) sg1).h.s2), I3 ((ys1.getD (((i_ : Int)).toNat) sg1).h.s3), I8 ((ys1.getD (((i_ : Int)).toNat) sg1).h.s4), I8 ((ys1.getD (((i_ : Int)).toNat) sg1).h.s5), I8 ((ys1.getD (((i_ : Int)).toNat) sg1).h.s6), I1 ((ys1.getD (((i_ : Int)).toNat) sg1).h.s7), I1 ((ys1.getD (((i_ : Int)).toNat) sg1).h.s8), I1 ((ys1.getD (((i_ : Int)).toNat) sg1).h.s9), VL ((ys1.getD (((i_ : Int)).toNat) sg1).A) ((ys1.getD (((i_ : Int)).toNat) sg1).n) ((ys1.getD (((i_ : Int)).toNat) sg1).c), VT ((ys1.getD (((i_ : Int)).toNat) sg1).d)]⟩), (1007, ⟨22, [VL B2_ n2_ c2_]⟩), (1008, ⟨29, [I3 x_]⟩)]⟩ ⟨⟨fun _ h => (by cases h; rfl), rfl⟩, ⟨fun _ h => (by cases h; rfl), rfl⟩, trivial⟩ ?_
  refine Do 3 6 15 B123 6 ?_
  obtain ⟨b_, hb_⟩ : ∃ z_, dif (begS (ys1.getD i_ sg1)) x_ = z_ := ⟨_, rfl⟩
  have hdr_ := dif_range (begS (ys1.getD i_ sg1)) x_
  rw [hb_] at hdr_
  have hah_ := ahead_ok (begS (ys1.getD (((i_ : Int)).toNat) sg1)) x_ G10
  rw [show dif (begS (ys1.getD (((i_ : Int)).toNat) sg1)) x_ = b_ from hb_] at hah_
  refine Cg 124 [N3 (begS (ys1.getD (((i_ : Int)).toNat) sg1)), N3 x_] 0 (hah_) ?_
  rintro v11 G11 rows11 hG11 ⟨rfl, rfl⟩
  replace hr := hr.mono hG11.le
  replace hr1 := hr1.mono hG11.le
  refine X.back ⟨⟨⟨fun _ h => (by cases h; rfl), rfl⟩, ⟨fun _ h => (by cases h; rfl), rfl⟩, trivial⟩, (hG10.trans hG11).le, rfl, ?_⟩
  refine Tk 4 6 31 B123 6 (I6 (IntKind.i64.wrap (0 - b_))) hQ8 ?_
  refine Dk 11 .i64 (-b_) rfl (by rw [wi64 (by omega) (by omega)]; omega) ?_
  refine Ts [5] 6 63 0 1 hQ8 ?_
  refine XD.done (by kernel_rfl) ?_
  refine Rn 7 (Qo B123 28 3) [Qs B123 29, Qs B123 15] ⟨48, [(1, .own 1008 0), (2, .own 1007 0), (3, .own 3 0), (4, VB false), (5, I6 (-b_)), (14, VB (decide ((-b_) < 0)))], [(3, ⟨82, [I1 ((ys1.getD (((i_ : Int)).toNat) sg1).h.s0), I1 ((ys1.getD (((i_ : Int)).toNat) sg1).h.s1), I3 ((ys1.getD (((i_ : Int)).toNat) sg1).h.s2), I3 ((ys1.getD (((i_ : Int)).toNat) sg1).h.s3), I8 ((ys1.getD (((i_ : Int)).toNat) sg1).h.s4), I8 ((ys1.getD (((i_ : Int)).toNat) sg1).h.s5), I8 ((ys1.getD (((i_ : Int)).toNat) sg1).h.s6), I1 ((ys1.getD (((i_ : Int)).toNat) sg1).h.s7), I1 ((ys1.getD (((i_ : Int)).toNat) sg1).h.s8), I1 ((ys1.getD (((i_ : Int)).toNat) sg1).h.s9), VL ((ys1.getD (((i_ : Int)).toNat) sg1).A) ((ys1.getD (((i_ : Int)).toNat) sg1).n) ((ys1.getD (((i_ : Int)).toNat) sg1).c), VT ((ys1.getD (((i_ : Int)).toNat) sg1).d)]⟩), (1007, ⟨22, [VL B2_ n2_ c2_]⟩), (1008, ⟨29, [I3 x_]⟩)]⟩ ?_
  refine X.split 14 rfl (fun h12 => ?_) (fun h12 => ?_)
  ·
   replace h12 : (-b_) < 0 := of_decide_eq_true h12
   refine Rn 20 (.ex .ret) [] ⟨48, [(4, VB false)], [(1007, ⟨22, [VL B2_ n2_ c2_]⟩), (1008, ⟨29, [I3 x_]⟩)]⟩ ?_
   refine fin8 _ _ _ _ [.bool false] [(7, ⟨22, [VL B2_ n2_ c2_]⟩), (8, ⟨29, [I3 x_]⟩)] (.inl rfl) (by kernel_rfl) (by kernel_rfl) ?_
   refine Rn 8 (.ops (aA C71 [1, 1, 1, 1, 1, 0, 0, 0, 0, 0, 1, 0, 0, 1, 1, 1]) (oA C71 [1, 1, 1, 1, 1, 0, 0, 0, 0, 0, 1, 0, 0, 1, 1, 1] 1 :: lA C71 [1, 1, 1, 1, 1, 0, 0, 0, 0, 0, 1, 0, 0, 1, 1, 1] 2)) [.loop J3, .blk 2, .seq (cA C71 [1, 1, 1, 1, 1, 0, 0, 0, 0, 1]), .blk 1, .loop J2, .blk 0, .seq (cA C71 [1, 1, 1, 1, 1, 1])] ⟨62, [(0, VL A1 ys1.length (c - 0)), (4, VT (⟨#[]⟩ : ByteArray)), (5, I3 0), (6, I6 0), (7, .own 7 0), (8, .own 8 0), (9, .fn 123 [(8, 0), (7, 0)]), (23, VL A1 ys1.length (c - 0)), (24, I6 (ys1.length : Int)), (25, I6 (i_ : Int)), (32, I6 (IntKind.i64.wrap ((i_ : Int) + 1)))], [(7, ⟨22, [VL B2_ n2_ c2_]⟩), (8, ⟨29, [I3 x_]⟩)]⟩ ?_
   refine Kn 32 .i64 ((i_ : Int) + 1) rfl (wi64 (by omega) (by omega)) ?_
   refine Rn 2 (.ex .normal) [.loop J3, .blk 2, .seq (cA C71 [1, 1, 1, 1, 1, 0, 0, 0, 0, 1]), .blk 1, .loop J2, .blk 0, .seq (cA C71 [1, 1, 1, 1, 1, 1])] ⟨62, [(0, VL A1 ys1.length (c - 0)), (4, VT (⟨#[]⟩ : ByteArray)), (5, I3 0), (6, I6 0), (7, .own 7 0), (8, .own 8 0), (9, .fn 123 [(8, 0), (7, 0)]), (23, VL A1 ys1.length (c - 0)), (24, I6 (ys1.length : Int)), (25, I6 ((i_ : Int) + 1))], [(7, ⟨22, [VL B2_ n2_ c2_]⟩), (8, ⟨29, [I3 x_]⟩)]⟩ ?_
   have hpz2_ : (pcG (ys1.getD i_ sg1) d_.size x_).size = 0 := by first | exact hpz_ | exact pcG_none (by rw [hb_]; omega)
   have hsk_ := stepG_skip (d := d_) (n := x_) hil_ hpz2_
   exact X.again (hJ3 _ _ _ _ ⟨B2_, c2_, n2_, (i_ + 1), rfl, rfl, ((hG3.trans hG10).trans hG11), ⟨by omega, by omega, by rw [← hsk_]; exact hst_⟩, rfl⟩ (by omega))
  ·
   replace h12 : ¬ ((-b_) < 0) := of_decide_eq_false h12
   refine Rn 4 (Qo B123 28 7) [Qs B123 29, Qs B123 15] ⟨48, [(1, .own 1008 0), (2, .own 1007 0), (3, .own 3 0), (4, VB false), (5, I6 (-b_)), (18, VB (decide ((-b_) > 1048576)))], [(3, ⟨82, [I1 ((ys1.getD (((i_ : Int)).toNat) sg1).h.s0), I1 ((ys1.getD (((i_ : Int)).toNat) sg1).h.s1), I3 ((ys1.getD (((i_ : Int)).toNat) sg1).h.s2), I3 ((ys1.getD (((i_ : Int)).toNat) sg1).h.s3), I8 ((ys1.getD (((i_ : Int)).toNat) sg1).h.s4), I8 ((ys1.getD (((i_ : Int)).toNat) sg1).h.s5), I8 ((ys1.getD (((i_ : Int)).toNat) sg1).h.s6), I1 ((ys1.getD (((i_ : Int)).toNat) sg1).h.s7), I1 ((ys1.getD (((i_ : Int)).toNat) sg1).h.s8), I1 ((ys1.getD (((i_ : Int)).toNat) sg1).h.s9), VL ((ys1.getD (((i_ : Int)).toNat) sg1).A) ((ys1.getD (((i_ : Int)).toNat) sg1).n) ((ys1.getD (((i_ : Int)).toNat) sg1).c), VT ((ys1.getD (((i_ : Int)).toNat) sg1).d)]⟩), (1007, ⟨22, [VL B2_ n2_ c2_]⟩), (1008, ⟨29, [I3 x_]⟩)]⟩ ?_
   refine X.split 18 rfl (fun h13 => ?_) (fun h13 => ?_)
   ·
    replace h13 : (-b_) > 1048576 := of_decide_eq_true h13
    refine Rn 16 (.ex .ret) [] ⟨48, [(4, VB false)], [(1007, ⟨22, [VL B2_ n2_ c2_]⟩), (1008, ⟨29, [I3 x_]⟩)]⟩ ?_
    refine fin8 _ _ _ _ [.bool false] [(7, ⟨22, [VL B2_ n2_ c2_]⟩), (8, ⟨29, [I3 x_]⟩)] (.inl rfl) (by kernel_rfl) (by kernel_rfl) ?_
    refine Rn 8 (.ops (aA C71 [1, 1, 1, 1, 1, 0, 0, 0, 0, 0, 1, 0, 0, 1, 1, 1]) (oA C71 [1, 1, 1, 1, 1, 0, 0, 0, 0, 0, 1, 0, 0, 1, 1, 1] 1 :: lA C71 [1, 1, 1, 1, 1, 0, 0, 0, 0, 0, 1, 0, 0, 1, 1, 1] 2)) [.loop J3, .blk 2, .seq (cA C71 [1, 1, 1, 1, 1, 0, 0, 0, 0, 1]), .blk 1, .loop J2, .blk 0, .seq (cA C71 [1, 1, 1, 1, 1, 1])] ⟨62, [(0, VL A1 ys1.length (c - 0)), (4, VT (⟨#[]⟩ : ByteArray)), (5, I3 0), (6, I6 0), (7, .own 7 0), (8, .own 8 0), (9, .fn 123 [(8, 0), (7, 0)]), (23, VL A1 ys1.length (c - 0)), (24, I6 (ys1.length : Int)), (25, I6 (i_ : Int)), (32, I6 (IntKind.i64.wrap ((i_ : Int) + 1)))], [(7, ⟨22, [VL B2_ n2_ c2_]⟩), (8, ⟨29, [I3 x_]⟩)]⟩ ?_
    refine Kn 32 .i64 ((i_ : Int) + 1) rfl (wi64 (by omega) (by omega)) ?_
    refine Rn 2 (.ex .normal) [.loop J3, .blk 2, .seq (cA C71 [1, 1, 1, 1, 1, 0, 0, 0, 0, 1]), .blk 1, .loop J2, .blk 0, .seq (cA C71 [1, 1, 1, 1, 1, 1])] ⟨62, [(0, VL A1 ys1.length (c - 0)), (4, VT (⟨#[]⟩ : ByteArray)), (5, I3 0), (6, I6 0), (7, .own 7 0), (8, .own 8 0), (9, .fn 123 [(8, 0), (7, 0)]), (23, VL A1 ys1.length (c - 0)), (24, I6 (ys1.length : Int)), (25, I6 ((i_ : Int) + 1))], [(7, ⟨22, [VL B2_ n2_ c2_]⟩), (8, ⟨29, [I3 x_]⟩)]⟩ ?_
    have hpz2_ : (pcG (ys1.getD i_ sg1) d_.size x_).size = 0 := by first | exact hpz_ | exact pcG_none (by rw [hb_]; omega)
    have hsk_ := stepG_skip (d := d_) (n := x_) hil_ hpz2_
    exact X.again (hJ3 _ _ _ _ ⟨B2_, c2_, n2_, (i_ + 1), rfl, rfl, ((hG3.trans hG10).trans hG11), ⟨by omega, by omega, by rw [← hsk_]; exact hst_⟩, rfl⟩ (by omega))
   ·
    replace h13 : ¬ ((-b_) > 1048576) := of_decide_eq_false h13
    refine Rn 8 (Qc B123 29) [Qs B123 15] ⟨48, [(1, .own 1008 0), (2, .own 1007 0), (3, .own 3 0), (4, VB false), (5, I6 (-b_)), (24, VB (decide ((-b_) ≥ (((ys1.getD (((i_ : Int)).toNat) sg1).d).size : Int))))], [(3, ⟨82, [I1 ((ys1.getD (((i_ : Int)).toNat) sg1).h.s0), I1 ((ys1.getD (((i_ : Int)).toNat) sg1).h.s1), I3 ((ys1.getD (((i_ : Int)).toNat) sg1).h.s2), I3 ((ys1.getD (((i_ : Int)).toNat) sg1).h.s3), I8 ((ys1.getD (((i_ : Int)).toNat) sg1).h.s4), I8 ((ys1.getD (((i_ : Int)).toNat) sg1).h.s5), I8 ((ys1.getD (((i_ : Int)).toNat) sg1).h.s6), I1 ((ys1.getD (((i_ : Int)).toNat) sg1).h.s7), I1 ((ys1.getD (((i_ : Int)).toNat) sg1).h.s8), I1 ((ys1.getD (((i_ : Int)).toNat) sg1).h.s9), VL ((ys1.getD (((i_ : Int)).toNat) sg1).A) ((ys1.getD (((i_ : Int)).toNat) sg1).n) ((ys1.getD (((i_ : Int)).toNat) sg1).c), VT ((ys1.getD (((i_ : Int)).toNat) sg1).d)]⟩), (1007, ⟨22, [VL B2_ n2_ c2_]⟩), (1008, ⟨29, [I3 x_]⟩)]⟩ ?_
    refine X.split 24 rfl (fun h14 => ?_) (fun h14 => ?_)
    ·
     replace h14 : (-b_) ≥ (((ys1.getD (((i_ : Int)).toNat) sg1).d).size : Int) := of_decide_eq_true h14
     have hpz_ : (pcG (ys1.getD i_ sg1) d_.size x_).size = 0 := pcG_none (by rw [hb_]; omega)
     refine Rn 8 (.ex .ret) [] ⟨48, [(4, VB false)], [(1007, ⟨22, [VL B2_ n2_ c2_]⟩), (1008, ⟨29, [I3 x_]⟩)]⟩ ?_
     refine fin8 _ _ _ _ [.bool false] [(7, ⟨22, [VL B2_ n2_ c2_]⟩), (8, ⟨29, [I3 x_]⟩)] (.inl rfl) (by kernel_rfl) (by kernel_rfl) ?_
     refine Rn 8 (.ops (aA C71 [1, 1, 1, 1, 1, 0, 0, 0, 0, 0, 1, 0, 0, 1, 1, 1]) (oA C71 [1, 1, 1, 1, 1, 0, 0, 0, 0, 0, 1, 0, 0, 1, 1, 1] 1 :: lA C71 [1, 1, 1, 1, 1, 0, 0, 0, 0, 0, 1, 0, 0, 1, 1, 1] 2)) [.loop J3, .blk 2, .seq (cA C71 [1, 1, 1, 1, 1, 0, 0, 0, 0, 1]), .blk 1, .loop J2, .blk 0, .seq (cA C71 [1, 1, 1, 1, 1, 1])] ⟨62, [(0, VL A1 ys1.length (c - 0)), (4, VT (⟨#[]⟩ : ByteArray)), (5, I3 0), (6, I6 0), (7, .own 7 0), (8, .own 8 0), (9, .fn 123 [(8, 0), (7, 0)]), (23, VL A1 ys1.length (c - 0)), (24, I6 (ys1.length : Int)), (25, I6 (i_ : Int)), (32, I6 (IntKind.i64.wrap ((i_ : Int) + 1)))], [(7, ⟨22, [VL B2_ n2_ c2_]⟩), (8, ⟨29, [I3 x_]⟩)]⟩ ?_
     refine Kn 32 .i64 ((i_ : Int) + 1) rfl (wi64 (by omega) (by omega)) ?_
     refine Rn 2 (.ex .normal) [.loop J3, .blk 2, .seq (cA C71 [1, 1, 1, 1, 1, 0, 0, 0, 0, 1]), .blk 1, .loop J2, .blk 0, .seq (cA C71 [1, 1, 1, 1, 1, 1])] ⟨62, [(0, VL A1 ys1.length (c - 0)), (4, VT (⟨#[]⟩ : ByteArray)), (5, I3 0), (6, I6 0), (7, .own 7 0), (8, .own 8 0), (9, .fn 123 [(8, 0), (7, 0)]), (23, VL A1 ys1.length (c - 0)), (24, I6 (ys1.length : Int)), (25, I6 ((i_ : Int) + 1))], [(7, ⟨22, [VL B2_ n2_ c2_]⟩), (8, ⟨29, [I3 x_]⟩)]⟩ ?_
     have hpz2_ : (pcG (ys1.getD i_ sg1) d_.size x_).size = 0 := by first | exact hpz_ | exact pcG_none (by rw [hb_]; omega)
     have hsk_ := stepG_skip (d := d_) (n := x_) hil_ hpz2_
     exact X.again (hJ3 _ _ _ _ ⟨B2_, c2_, n2_, (i_ + 1), rfl, rfl, ((hG3.trans hG10).trans hG11), ⟨by omega, by omega, by rw [← hsk_]; exact hst_⟩, rfl⟩ (by omega))
    ·
     replace h14 : ¬ ((-b_) ≥ (((ys1.getD (((i_ : Int)).toNat) sg1).d).size : Int)) := of_decide_eq_false h14
     obtain ⟨p_, hp_⟩ : ∃ z_, pcG (ys1.getD i_ sg1) d_.size x_ = z_ := ⟨_, rfl⟩
     have hps_ := pcG_size (x := (ys1.getD i_ sg1)) (z := d_.size) (n := x_) (by rw [hb_]; omega) (by rw [hb_]; omega) (by rw [hb_]; omega)
     have hpe_ := pcG_some (x := (ys1.getD i_ sg1)) (z := d_.size) (n := x_) (by rw [hb_]; omega) (by rw [hb_]; omega) (by rw [hb_]; omega)
     rw [hp_, hb_] at hps_ hpe_
     refine Rn 8 (Qo B123 30 3) [Qs B123 31] ⟨48, [(1, .own 1008 0), (2, .own 1007 0), (4, VB false), (26, VT ((ys1.getD (((i_ : Int)).toNat) sg1).d)), (27, I6 (-b_))], [(1007, ⟨22, [VL B2_ n2_ c2_]⟩), (1008, ⟨29, [I3 x_]⟩)]⟩ ?_
     rcases Nat.eq_zero_or_pos p_.size with hpz0_ | hpz0_
     ·
      refine X.cutStr (t := 9) (b := (ys1.getD (((i_ : Int)).toNat) sg1).d) (x := .tmp 26) (l := (some (.tmp 27))) (h := none) (lv := (some (N6 (-b_)))) (hv := none) (((-b_)).toNat) (((ys1.getD (((i_ : Int)).toNat) sg1).d).size) (by kernel_rfl) (by kernel_rfl) (by kernel_rfl) (by kernel_rfl) (by kernel_rfl) (by kernel_rfl) (⟨_, _, rfl, by omega, rfl⟩) (rfl) (by first | (omega) | decide) (by first | (omega) | decide) ?_
      obtain ⟨m_, hm_⟩ : ∃ z_, ((ys1.getD (((i_ : Int)).toNat) sg1).d).extract (((-b_)).toNat) (((ys1.getD (((i_ : Int)).toNat) sg1).d).size) = z_ := ⟨_, rfl⟩
      have hms_ : m_.size = (ys1.getD i_ sg1).d.size - (-b_).toNat := by rw [← hm_, ByteArray.size_extract]; exact congrArg (· - _) (Nat.min_self _)
      rw [show (ys1.getD i_ sg1).d.extract (-b_).toNat (ys1.getD i_ sg1).d.size = m_ from hm_, ← hms_] at hpe_
      refine X.known 28 (y := VT m_) rfl (congrArg (fun z_ => AV.v (Value.string z_)) (hm_)) ?_
      refine Rn 11 (Qo B123 62 6) [Qs B123 63] ⟨48, [(1, .own 1008 0), (2, .own 1007 0), (4, VB false), (6, VT m_), (29, VT m_), (31, I6 (m_.size : Int)), (34, I6 (IntKind.i64.wrap (1048576 - ((n2_ : Nat) : Int))))], [(1007, ⟨22, [VL B2_ n2_ c2_]⟩), (1008, ⟨29, [I3 x_]⟩)]⟩ ?_
      refine Kn 34 .i64 ((1048576 - d_.size : Nat) : Int) rfl (by rw [wi64 (by omega) (by omega)]; omega) ?_
      refine Rn 1 (Qo B123 62 7) [Qs B123 63] ⟨48, [(1, .own 1008 0), (2, .own 1007 0), (4, VB false), (6, VT m_), (29, VT m_), (35, I6 (imin (m_.size : Int) ((1048576 - d_.size : Nat) : Int)))], [(1007, ⟨22, [VL B2_ n2_ c2_]⟩), (1008, ⟨29, [I3 x_]⟩)]⟩ ?_
      refine Kn 35 .i64 ((min m_.size (1048576 - d_.size) : Nat) : Int) rfl (by simp only [imin_eq]; omega) ?_
      refine X.cutStr (t := 9) (b := m_) (x := .tmp 29) (l := none) (h := (some (.tmp 35))) (lv := none) (hv := (some (N6 ((min m_.size (1048576 - d_.size) : Nat) : Int)))) 0 ((((min m_.size (1048576 - d_.size) : Nat) : Int)).toNat) (by kernel_rfl) (by kernel_rfl) (by kernel_rfl) (by kernel_rfl) (by kernel_rfl) (by kernel_rfl) (rfl) (⟨_, _, rfl, by omega, rfl⟩) (by first | (omega) | decide) (by first | (omega) | decide) ?_
      refine X.known 36 (y := VT p_) rfl (congrArg (fun z_ => AV.v (Value.string z_)) (hpe_.symm)) ?_
      refine Rn 7 (Qo B123 126 2) [Qs B123 127] ⟨48, [(1, .own 1008 0), (2, .own 1007 0), (4, VB false), (6, VT p_), (37, VL B2_ n2_ c2_), (38, VT p_)], [(1007, ⟨22, [VL B2_ n2_ c2_]⟩), (1008, ⟨29, [I3 x_]⟩)]⟩ ?_
      refine X.appendStr 300 (RR 5 1 B2_ n2_ c2_ ((bytesL d_).map (Value.int .u8))) 22 9 (x := .tmp 37) (y := .tmp 38) (n := n2_) (c := c2_) (A := B2_) (b := p_) (by kernel_rfl) (by kernel_rfl) (by kernel_rfl) (by kernel_rfl) (by kernel_rfl) (by kernel_rfl) rfl (by kernel_rfl) (.inl rfl) rfl rfl (by omega) ?_
      intro A15 c15 hc15
      refine X.tellR [300] (R' := [(300, RR 5 1 A15 (n2_ + p_.size) c15 (((bytesL d_) ++ bytesL p_).map (Value.int .u8)))]) (congrArg (fun cs_ => (300, (RR 5 1 A15 (n2_ + p_.size) c15 cs_ : Row)) :: []) (show (bytesL d_).map (Value.int .u8) ++ (bytesL p_).map (Value.int .u8) = ((bytesL d_) ++ bytesL p_).map (Value.int .u8) by simp)) ?_
      refine Rn 9 (Qo B123 254 4) [Qs B123 255] ⟨48, [(1, .own 1008 0), (4, VB false), (6, VT p_), (40, I3 x_), (43, I3 (IntKind.u32.wrap (p_.size : Int)))], [(1007, ⟨22, [VL A15 (n2_ + p_.size) c15]⟩), (1008, ⟨29, [I3 x_]⟩)]⟩ ?_
      refine Kn 43 .u32 (p_.size : Int) rfl (by rw [u32_wrap]; omega) ?_
      refine Rn 1 (Qo B123 254 5) [Qs B123 255] ⟨48, [(1, .own 1008 0), (4, VB false), (6, VT p_), (44, I3 (IntKind.u32.wrap (x_ + (p_.size : Int))))], [(1007, ⟨22, [VL A15 (n2_ + p_.size) c15]⟩), (1008, ⟨29, [I3 x_]⟩)]⟩ ?_
      refine Kn 44 .u32 x_ rfl (by rw [u32_wrap]; omega) ?_
      refine Rn 12 (.ex .ret) [] ⟨48, [(4, VB (decide ((p_.size : Int) > 0)))], [(1007, ⟨22, [VL A15 (n2_ + p_.size) c15]⟩), (1008, ⟨29, [I3 x_]⟩)]⟩ ?_
      refine fin8 _ _ _ _ [.bool (decide ((p_.size : Int) > 0))] [(7, ⟨22, [VL A15 (n2_ + p_.size) c15]⟩), (8, ⟨29, [I3 x_]⟩)] (.inl rfl) (by kernel_rfl) (by kernel_rfl) ?_
      refine Rn 2 (.code (cA C71 [1, 1, 1, 1, 1, 0, 0, 0, 0, 0, 1, 0, 0, 1, 1, 0, 0, 1, 1])) [.blk 3, .seq (cA C71 [1, 1, 1, 1, 1, 0, 0, 0, 0, 0, 1, 0, 0, 1, 1, 1]), .loop J3, .blk 2, .seq (cA C71 [1, 1, 1, 1, 1, 0, 0, 0, 0, 1]), .blk 1, .loop J2, .blk 0, .seq (cA C71 [1, 1, 1, 1, 1, 1])] ⟨62, [(0, VL A1 ys1.length (c - 0)), (4, VT (⟨#[]⟩ : ByteArray)), (5, I3 0), (6, I6 0), (7, .own 7 0), (8, .own 8 0), (9, .fn 123 [(8, 0), (7, 0)]), (23, VL A1 ys1.length (c - 0)), (24, I6 (ys1.length : Int)), (25, I6 (i_ : Int)), (31, VB (decide ((p_.size : Int) > 0)))], [(7, ⟨22, [VL A15 (n2_ + p_.size) c15]⟩), (8, ⟨29, [I3 x_]⟩)]⟩ ?_
      have hpz_ : (pcG (ys1.getD i_ sg1) d_.size x_).size = 0 := by rw [hp_]; omega
      refine X.tellR [300] (R' := [(300, RR 5 1 A15 (n2_ + p_.size) c15 ((bytesL d_).map (Value.int .u8)))]) (congrArg (fun z_ : List Int => [(300, (RR 5 1 A15 (n2_ + p_.size) c15 (z_.map (Value.int .u8)) : Row))]) (by rw [← bytesL_app, ba_app_empty _ _ (by omega)])) ?_
      refine X.isFalse 31 rfl (decide_eq_false (by omega)) ?_
      refine Rn 6 (.ops (aA C71 [1, 1, 1, 1, 1, 0, 0, 0, 0, 0, 1, 0, 0, 1, 1, 1]) (oA C71 [1, 1, 1, 1, 1, 0, 0, 0, 0, 0, 1, 0, 0, 1, 1, 1] 1 :: lA C71 [1, 1, 1, 1, 1, 0, 0, 0, 0, 0, 1, 0, 0, 1, 1, 1] 2)) [.loop J3, .blk 2, .seq (cA C71 [1, 1, 1, 1, 1, 0, 0, 0, 0, 1]), .blk 1, .loop J2, .blk 0, .seq (cA C71 [1, 1, 1, 1, 1, 1])] ⟨62, [(0, VL A1 ys1.length (c - 0)), (4, VT (⟨#[]⟩ : ByteArray)), (5, I3 0), (6, I6 0), (7, .own 7 0), (8, .own 8 0), (9, .fn 123 [(8, 0), (7, 0)]), (23, VL A1 ys1.length (c - 0)), (24, I6 (ys1.length : Int)), (25, I6 (i_ : Int)), (32, I6 (IntKind.i64.wrap ((i_ : Int) + 1)))], [(7, ⟨22, [VL A15 (n2_ + p_.size) c15]⟩), (8, ⟨29, [I3 x_]⟩)]⟩ ?_
      refine Kn 32 .i64 ((i_ : Int) + 1) rfl (wi64 (by omega) (by omega)) ?_
      refine Rn 2 (.ex .normal) [.loop J3, .blk 2, .seq (cA C71 [1, 1, 1, 1, 1, 0, 0, 0, 0, 1]), .blk 1, .loop J2, .blk 0, .seq (cA C71 [1, 1, 1, 1, 1, 1])] ⟨62, [(0, VL A1 ys1.length (c - 0)), (4, VT (⟨#[]⟩ : ByteArray)), (5, I3 0), (6, I6 0), (7, .own 7 0), (8, .own 8 0), (9, .fn 123 [(8, 0), (7, 0)]), (23, VL A1 ys1.length (c - 0)), (24, I6 (ys1.length : Int)), (25, I6 ((i_ : Int) + 1))], [(7, ⟨22, [VL A15 (n2_ + p_.size) c15]⟩), (8, ⟨29, [I3 x_]⟩)]⟩ ?_
      have hpz2_ : (pcG (ys1.getD i_ sg1) d_.size x_).size = 0 := by first | exact hpz_ | exact pcG_none (by rw [hb_]; omega)
      have hsk_ := stepG_skip (d := d_) (n := x_) hil_ hpz2_
      exact X.again (hJ3 _ _ _ _ ⟨A15, c15, (n2_ + p_.size), (i_ + 1), rfl, rfl, ((hG3.trans hG10).trans hG11), ⟨by omega, by omega, by rw [← hsk_]; exact hst_⟩, rfl⟩ (by omega))
     ·
      refine X.cutStr (t := 9) (b := (ys1.getD (((i_ : Int)).toNat) sg1).d) (x := .tmp 26) (l := (some (.tmp 27))) (h := none) (lv := (some (N6 (-b_)))) (hv := none) (((-b_)).toNat) (((ys1.getD (((i_ : Int)).toNat) sg1).d).size) (by kernel_rfl) (by kernel_rfl) (by kernel_rfl) (by kernel_rfl) (by kernel_rfl) (by kernel_rfl) (⟨_, _, rfl, by omega, rfl⟩) (rfl) (by first | (omega) | decide) (by first | (omega) | decide) ?_
      obtain ⟨m_, hm_⟩ : ∃ z_, ((ys1.getD (((i_ : Int)).toNat) sg1).d).extract (((-b_)).toNat) (((ys1.getD (((i_ : Int)).toNat) sg1).d).size) = z_ := ⟨_, rfl⟩
      have hms_ : m_.size = (ys1.getD i_ sg1).d.size - (-b_).toNat := by rw [← hm_, ByteArray.size_extract]; exact congrArg (· - _) (Nat.min_self _)
      rw [show (ys1.getD i_ sg1).d.extract (-b_).toNat (ys1.getD i_ sg1).d.size = m_ from hm_, ← hms_] at hpe_
      refine X.known 28 (y := VT m_) rfl (congrArg (fun z_ => AV.v (Value.string z_)) (hm_)) ?_
      refine Rn 11 (Qo B123 62 6) [Qs B123 63] ⟨48, [(1, .own 1008 0), (2, .own 1007 0), (4, VB false), (6, VT m_), (29, VT m_), (31, I6 (m_.size : Int)), (34, I6 (IntKind.i64.wrap (1048576 - ((n2_ : Nat) : Int))))], [(1007, ⟨22, [VL B2_ n2_ c2_]⟩), (1008, ⟨29, [I3 x_]⟩)]⟩ ?_
      refine Kn 34 .i64 ((1048576 - d_.size : Nat) : Int) rfl (by rw [wi64 (by omega) (by omega)]; omega) ?_
      refine Rn 1 (Qo B123 62 7) [Qs B123 63] ⟨48, [(1, .own 1008 0), (2, .own 1007 0), (4, VB false), (6, VT m_), (29, VT m_), (35, I6 (imin (m_.size : Int) ((1048576 - d_.size : Nat) : Int)))], [(1007, ⟨22, [VL B2_ n2_ c2_]⟩), (1008, ⟨29, [I3 x_]⟩)]⟩ ?_
      refine Kn 35 .i64 ((min m_.size (1048576 - d_.size) : Nat) : Int) rfl (by simp only [imin_eq]; omega) ?_
      refine X.cutStr (t := 9) (b := m_) (x := .tmp 29) (l := none) (h := (some (.tmp 35))) (lv := none) (hv := (some (N6 ((min m_.size (1048576 - d_.size) : Nat) : Int)))) 0 ((((min m_.size (1048576 - d_.size) : Nat) : Int)).toNat) (by kernel_rfl) (by kernel_rfl) (by kernel_rfl) (by kernel_rfl) (by kernel_rfl) (by kernel_rfl) (rfl) (⟨_, _, rfl, by omega, rfl⟩) (by first | (omega) | decide) (by first | (omega) | decide) ?_
      refine X.known 36 (y := VT p_) rfl (congrArg (fun z_ => AV.v (Value.string z_)) (hpe_.symm)) ?_
      refine Rn 7 (Qo B123 126 2) [Qs B123 127] ⟨48, [(1, .own 1008 0), (2, .own 1007 0), (4, VB false), (6, VT p_), (37, VL B2_ n2_ c2_), (38, VT p_)], [(1007, ⟨22, [VL B2_ n2_ c2_]⟩), (1008, ⟨29, [I3 x_]⟩)]⟩ ?_
      refine X.appendStr 300 (RR 5 1 B2_ n2_ c2_ ((bytesL d_).map (Value.int .u8))) 22 9 (x := .tmp 37) (y := .tmp 38) (n := n2_) (c := c2_) (A := B2_) (b := p_) (by kernel_rfl) (by kernel_rfl) (by kernel_rfl) (by kernel_rfl) (by kernel_rfl) (by kernel_rfl) rfl (by kernel_rfl) (.inl rfl) rfl rfl (by omega) ?_
      intro A16 c16 hc16
      refine X.tellR [300] (R' := [(300, RR 5 1 A16 (n2_ + p_.size) c16 (((bytesL d_) ++ bytesL p_).map (Value.int .u8)))]) (congrArg (fun cs_ => (300, (RR 5 1 A16 (n2_ + p_.size) c16 cs_ : Row)) :: []) (show (bytesL d_).map (Value.int .u8) ++ (bytesL p_).map (Value.int .u8) = ((bytesL d_) ++ bytesL p_).map (Value.int .u8) by simp)) ?_
      refine Rn 9 (Qo B123 254 4) [Qs B123 255] ⟨48, [(1, .own 1008 0), (4, VB false), (6, VT p_), (40, I3 x_), (43, I3 (IntKind.u32.wrap (p_.size : Int)))], [(1007, ⟨22, [VL A16 (n2_ + p_.size) c16]⟩), (1008, ⟨29, [I3 x_]⟩)]⟩ ?_
      refine Kn 43 .u32 (p_.size : Int) rfl (by rw [u32_wrap]; omega) ?_
      refine Rn 13 (.ex .ret) [] ⟨48, [(4, VB (decide ((p_.size : Int) > 0)))], [(1007, ⟨22, [VL A16 (n2_ + p_.size) c16]⟩), (1008, ⟨29, [I3 (IntKind.u32.wrap (x_ + (p_.size : Int)))]⟩)]⟩ ?_
      refine fin8 _ _ _ _ [.bool (decide ((p_.size : Int) > 0))] [(7, ⟨22, [VL A16 (n2_ + p_.size) c16]⟩), (8, ⟨29, [I3 (IntKind.u32.wrap (x_ + (p_.size : Int)))]⟩)] (.inl rfl) (by kernel_rfl) (by kernel_rfl) ?_
      refine Rn 2 (.code (cA C71 [1, 1, 1, 1, 1, 0, 0, 0, 0, 0, 1, 0, 0, 1, 1, 0, 0, 1, 1])) [.blk 3, .seq (cA C71 [1, 1, 1, 1, 1, 0, 0, 0, 0, 0, 1, 0, 0, 1, 1, 1]), .loop J3, .blk 2, .seq (cA C71 [1, 1, 1, 1, 1, 0, 0, 0, 0, 1]), .blk 1, .loop J2, .blk 0, .seq (cA C71 [1, 1, 1, 1, 1, 1])] ⟨62, [(0, VL A1 ys1.length (c - 0)), (4, VT (⟨#[]⟩ : ByteArray)), (5, I3 0), (6, I6 0), (7, .own 7 0), (8, .own 8 0), (9, .fn 123 [(8, 0), (7, 0)]), (23, VL A1 ys1.length (c - 0)), (24, I6 (ys1.length : Int)), (25, I6 (i_ : Int)), (31, VB (decide ((p_.size : Int) > 0)))], [(7, ⟨22, [VL A16 (n2_ + p_.size) c16]⟩), (8, ⟨29, [I3 (IntKind.u32.wrap (x_ + (p_.size : Int)))]⟩)]⟩ ?_
      have htk_ := stepG_take (d := d_) (n := x_) hil_ (by rw [hp_]; omega)
      rw [hp_, hst_] at htk_
      refine X.tellR [300] (R' := [(300, RR 5 1 A16 (n2_ + p_.size) c16 ((bytesL (d_ ++ p_)).map (Value.int .u8)))]) (congrArg (fun z_ : List Int => [(300, (RR 5 1 A16 (n2_ + p_.size) c16 (z_.map (Value.int .u8)) : Row))]) ((bytesL_app d_ p_).symm)) ?_
      refine X.isTrue 31 rfl (decide_eq_true (by omega)) ?_
      refine Rn 8 (.ex .normal) [.loop J2, .blk 0, .seq (cA C71 [1, 1, 1, 1, 1, 1])] ⟨62, [(0, VL A1 ys1.length (c - 0)), (4, VT (⟨#[]⟩ : ByteArray)), (5, I3 0), (6, I6 0), (7, .own 7 0), (8, .own 8 0), (9, .fn 123 [(8, 0), (7, 0)])], [(7, ⟨22, [VL A16 (n2_ + p_.size) c16]⟩), (8, ⟨29, [I3 (IntKind.u32.wrap (x_ + (p_.size : Int)))]⟩)]⟩ ?_
      exact X.again (hJ2 _ _ _ _ ⟨A16, c16, (n2_ + p_.size), d_ ++ p_, (IntKind.u32.wrap (x_ + (p_.size : Int))), rfl, rfl, (((hG2.trans hG3).trans hG10).trans hG11), ⟨by rw [ByteArray.size_append]; omega, by rw [ByteArray.size_append]; omega, by rw [u32_wrap]; omega, fun _ _ h_ => hgd_ _ _ (.step htk_ h_)⟩, rfl⟩ (by rw [ByteArray.size_append]; omega))
 ·
  replace h4 : ¬ ((i_ : Int) < ((ys1.length : Nat) : Int)) := of_decide_eq_false h4
  have hie_ : ys1.length ≤ i_ := by omega
  rw [stepG_end hie_] at hst_
  have hgd2_ := hgd_ _ _ (.stop hst_.symm)
  refine Rn 25 (.code (cA C71 [1, 1, 1, 1, 1, 1, 1, 0, 1, 0])) [.blk 4, .seq (cA C71 [1, 1, 1, 1, 1, 1, 1, 1])] ⟨62, [(4, VT (⟨#[]⟩ : ByteArray)), (5, I3 0), (6, I6 0), (7, .own 7 0), (8, .own 8 0), (12, I6 0), (33, VL A1 ys1.length (c - 0)), (34, I6 (ys1.length : Int)), (35, I6 0)], [(7, ⟨22, [VL B2_ n2_ c2_]⟩), (8, ⟨29, [I3 x_]⟩)]⟩ ?_
  refine X.loopJ (fun m s R' G' => ∃ (j_ g_ : Nat), s = ⟨62, [(4, VT (⟨#[]⟩ : ByteArray)), (5, I3 0), (6, I6 0), (7, .own 7 0), (8, .own 8 0), (12, I6 ((g_ : Nat) : Int)), (33, VL A1 ys1.length (c - 0)), (34, I6 (ys1.length : Int)), (35, I6 (j_ : Int))], [(7, ⟨22, [VL B2_ n2_ c2_]⟩), (8, ⟨29, [I3 x_]⟩)]⟩ ∧ R' = [(300, RR 5 1 B2_ n2_ c2_ ((bytesL d_).map (Value.int .u8)))] ∧ Ge G3 w.heap.size G' ∧ (j_ ≤ ys1.length ∧ g_ = gapsG (ys1.take j_) x_ ∧ g_ ≤ j_) ∧ m = (ys1.length - j_)) _ ⟨0, 0, rfl, rfl, Ge.refl _ _, ⟨by omega, rfl, by omega⟩, rfl⟩ ?_
  rintro m17 s17 R17 G17 ⟨j_, g_, rfl, rfl, hG17, hF17, rfl⟩ J17 hJ17
  replace hr := hr.mono hG17.le
  replace hr1 := hr1.mono hG17.le
  obtain ⟨hj_, hg_, hgj_⟩ := hF17
  refine Rn 6 (.code (cA C71 [1, 1, 1, 1, 1, 1, 1, 0, 1, 0, 0, 1, 0])) [.seq (cA C71 [1, 1, 1, 1, 1, 1, 1, 0, 1, 0, 0, 1, 1]), .loop J17, .blk 4, .seq (cA C71 [1, 1, 1, 1, 1, 1, 1, 1])] ⟨62, [(4, VT (⟨#[]⟩ : ByteArray)), (5, I3 0), (6, I6 0), (7, .own 7 0), (8, .own 8 0), (12, I6 ((g_ : Nat) : Int)), (33, VL A1 ys1.length (c - 0)), (34, I6 (ys1.length : Int)), (35, I6 (j_ : Int)), (36, VB (decide ((j_ : Int) < (ys1.length : Int))))], [(7, ⟨22, [VL B2_ n2_ c2_]⟩), (8, ⟨29, [I3 x_]⟩)]⟩ ?_
  refine X.split 36 rfl (fun h18 => ?_) (fun h18 => ?_)
  ·
   replace h18 : (j_ : Int) < ((ys1.length : Nat) : Int) := of_decide_eq_true h18
   have hjl_ : j_ < ys1.length := by omega
   have hoki_ : okG (ys1.getD j_ sg1) := sgs_ok hok hjl_
   have hsz_ : (ys1.getD ((j_ : Int)).toNat sg1).d.size = (ys1.getD j_ sg1).d.size := rfl
   refine Rn 7 (.ops (aA C71 [1, 1, 1, 1, 1, 1, 1, 0, 1, 0, 0, 1, 1, 0, 0, 0]) (oA C71 [1, 1, 1, 1, 1, 1, 1, 0, 1, 0, 0, 1, 1, 0, 0, 0] 0 :: lA C71 [1, 1, 1, 1, 1, 1, 1, 0, 1, 0, 0, 1, 1, 0, 0, 0] 1)) [.seq (cA C71 [1, 1, 1, 1, 1, 1, 1, 0, 1, 0, 0, 1, 1, 0, 0, 1]), .blk 5, .seq (cA C71 [1, 1, 1, 1, 1, 1, 1, 0, 1, 0, 0, 1, 1, 1]), .loop J17, .blk 4, .seq (cA C71 [1, 1, 1, 1, 1, 1, 1, 1])] ⟨62, [(4, VT (⟨#[]⟩ : ByteArray)), (5, I3 0), (6, I6 0), (7, .own 7 0), (8, .own 8 0), (12, I6 ((g_ : Nat) : Int)), (33, VL A1 ys1.length (c - 0)), (34, I6 (ys1.length : Int)), (35, I6 (j_ : Int))], [(7, ⟨22, [VL B2_ n2_ c2_]⟩), (8, ⟨29, [I3 x_]⟩)]⟩ ?_
   have b19 : (0 : Int) ≤ (j_ : Int) := by omega
   have b20 : (j_ : Int) < ((ys1.length : Nat) : Int) := by omega
   refine Ix 96 82 12 A1 ys1.length (c - 0) .i64 (j_ : Int) (.tmp 33) (.tmp 35) b19 b20 (fun _ _ => rowAt.so hr1 (by omega)) ?_
   have at21 := At.sg [(300, ⟨5, 1, .slice B2_ n2_ c2_, n2_, (bytesL d_).map (Value.int .u8)⟩)] hr1 (((j_ : Int)).toNat) (by omega)
   simp only [sgV] at at21
   refine Ld 82 A1 (((j_ : Int)).toNat * 12) (.tmp 37) (.agg #[N1 ((ys1.getD (((j_ : Int)).toNat) sg1).h.s0), N1 ((ys1.getD (((j_ : Int)).toNat) sg1).h.s1), N3 ((ys1.getD (((j_ : Int)).toNat) sg1).h.s2), N3 ((ys1.getD (((j_ : Int)).toNat) sg1).h.s3), N8 ((ys1.getD (((j_ : Int)).toNat) sg1).h.s4), N8 ((ys1.getD (((j_ : Int)).toNat) sg1).h.s5), N8 ((ys1.getD (((j_ : Int)).toNat) sg1).h.s6), N1 ((ys1.getD (((j_ : Int)).toNat) sg1).h.s7), N1 ((ys1.getD (((j_ : Int)).toNat) sg1).h.s8), N1 ((ys1.getD (((j_ : Int)).toNat) sg1).h.s9), .slice ((ys1.getD (((j_ : Int)).toNat) sg1).A) ((ys1.getD (((j_ : Int)).toNat) sg1).n) ((ys1.getD (((j_ : Int)).toNat) sg1).c), .string ((ys1.getD (((j_ : Int)).toNat) sg1).d)]) [N1 ((ys1.getD (((j_ : Int)).toNat) sg1).h.s0), N1 ((ys1.getD (((j_ : Int)).toNat) sg1).h.s1), N3 ((ys1.getD (((j_ : Int)).toNat) sg1).h.s2), N3 ((ys1.getD (((j_ : Int)).toNat) sg1).h.s3), N8 ((ys1.getD (((j_ : Int)).toNat) sg1).h.s4), N8 ((ys1.getD (((j_ : Int)).toNat) sg1).h.s5), N8 ((ys1.getD (((j_ : Int)).toNat) sg1).h.s6), N1 ((ys1.getD (((j_ : Int)).toNat) sg1).h.s7), N1 ((ys1.getD (((j_ : Int)).toNat) sg1).h.s8), N1 ((ys1.getD (((j_ : Int)).toNat) sg1).h.s9), .slice ((ys1.getD (((j_ : Int)).toNat) sg1).A) ((ys1.getD (((j_ : Int)).toNat) sg1).n) ((ys1.getD (((j_ : Int)).toNat) sg1).c), .string ((ys1.getD (((j_ : Int)).toNat) sg1).d)] at21 ?_
   refine Rn 5 (.code (cA C71 [1, 1, 1, 1, 1, 1, 1, 0, 1, 0, 0, 1, 1, 0, 0, 1, 0])) [.seq (cA C71 [1, 1, 1, 1, 1, 1, 1, 0, 1, 0, 0, 1, 1, 0, 0, 1, 1]), .blk 5, .seq (cA C71 [1, 1, 1, 1, 1, 1, 1, 0, 1, 0, 0, 1, 1, 1]), .loop J17, .blk 4, .seq (cA C71 [1, 1, 1, 1, 1, 1, 1, 1])] ⟨62, [(4, VT (⟨#[]⟩ : ByteArray)), (5, I3 0), (6, I6 0), (7, .own 7 0), (8, .own 8 0), (12, I6 ((g_ : Nat) : Int)), (14, .own 14 0), (33, VL A1 ys1.length (c - 0)), (34, I6 (ys1.length : Int)), (35, I6 (j_ : Int))], [(7, ⟨22, [VL B2_ n2_ c2_]⟩), (8, ⟨29, [I3 x_]⟩), (14, ⟨82, [I1 ((ys1.getD (((j_ : Int)).toNat) sg1).h.s0), I1 ((ys1.getD (((j_ : Int)).toNat) sg1).h.s1), I3 ((ys1.getD (((j_ : Int)).toNat) sg1).h.s2), I3 ((ys1.getD (((j_ : Int)).toNat) sg1).h.s3), I8 ((ys1.getD (((j_ : Int)).toNat) sg1).h.s4), I8 ((ys1.getD (((j_ : Int)).toNat) sg1).h.s5), I8 ((ys1.getD (((j_ : Int)).toNat) sg1).h.s6), I1 ((ys1.getD (((j_ : Int)).toNat) sg1).h.s7), I1 ((ys1.getD (((j_ : Int)).toNat) sg1).h.s8), I1 ((ys1.getD (((j_ : Int)).toNat) sg1).h.s9), VL ((ys1.getD (((j_ : Int)).toNat) sg1).A) ((ys1.getD (((j_ : Int)).toNat) sg1).n) ((ys1.getD (((j_ : Int)).toNat) sg1).c), VT ((ys1.getD (((j_ : Int)).toNat) sg1).d)]⟩)]⟩ ?_
   have hr_d22 := hr
   have hr1_d22 := hr1
   refine XD.open (id := 14) (arr := aA C71 [1, 1, 1, 1, 1, 1, 1, 0, 1, 0, 0, 1, 1, 0, 0, 1, 0]) 5 [⟨some 8, 8, 29, [I3 x_]⟩, ⟨some 14, 14, 82, [I1 ((ys1.getD (((j_ : Int)).toNat) sg1).h.s0), I1 ((ys1.getD (((j_ : Int)).toNat) sg1).h.s1), I3 ((ys1.getD (((j_ : Int)).toNat) sg1).h.s2), I3 ((ys1.getD (((j_ : Int)).toNat) sg1).h.s3), I8 ((ys1.getD (((j_ : Int)).toNat) sg1).h.s4), I8 ((ys1.getD (((j_ : Int)).toNat) sg1).h.s5), I8 ((ys1.getD (((j_ : Int)).toNat) sg1).h.s6), I1 ((ys1.getD (((j_ : Int)).toNat) sg1).h.s7), I1 ((ys1.getD (((j_ : Int)).toNat) sg1).h.s8), I1 ((ys1.getD (((j_ : Int)).toNat) sg1).h.s9), VL ((ys1.getD (((j_ : Int)).toNat) sg1).A) ((ys1.getD (((j_ : Int)).toNat) sg1).n) ((ys1.getD (((j_ : Int)).toNat) sg1).c), VT ((ys1.getD (((j_ : Int)).toNat) sg1).d)]⟩] [] [] (by kernel_rfl) (by kernel_rfl) (by kernel_rfl) (by kernel_rfl) (by kernel_rfl) ⟨⟨fun _ h => (by cases h; rfl), rfl⟩, ⟨fun _ h => (by cases h; rfl), rfl⟩, trivial⟩ (by intro p hp hn; simp only [List.mem_cons, List.not_mem_nil, or_false] at hp; rcases hp with rfl | rfl <;> first | (cases hn; done) | exact absurd _ (Nat.le_of_ble_eq_true rfl)) rfl (fun ρ0 => ?_)
   refine Ts [0, 2] 5 5 3 5 (QOk.scope QOk.ctxG) ?_
   refine Dn ⟨62, [(4, VT (⟨#[]⟩ : ByteArray)), (5, I3 0), (6, I6 0), (7, .own 7 0), (8, .own 8 0), (12, I6 ((g_ : Nat) : Int)), (14, .own 14 0), (33, VL A1 ys1.length (c - 0)), (34, I6 (ys1.length : Int)), (35, I6 (j_ : Int)), (39, .v (.agg #[N1 ((ys1.getD (((j_ : Int)).toNat) sg1).h.s0), N1 ((ys1.getD (((j_ : Int)).toNat) sg1).h.s1), N3 ((ys1.getD (((j_ : Int)).toNat) sg1).h.s2), N3 ((ys1.getD (((j_ : Int)).toNat) sg1).h.s3), N8 ((ys1.getD (((j_ : Int)).toNat) sg1).h.s4), N8 ((ys1.getD (((j_ : Int)).toNat) sg1).h.s5), N8 ((ys1.getD (((j_ : Int)).toNat) sg1).h.s6), N1 ((ys1.getD (((j_ : Int)).toNat) sg1).h.s7), N1 ((ys1.getD (((j_ : Int)).toNat) sg1).h.s8), N1 ((ys1.getD (((j_ : Int)).toNat) sg1).h.s9), .slice ((ys1.getD (((j_ : Int)).toNat) sg1).A) ((ys1.getD (((j_ : Int)).toNat) sg1).n) ((ys1.getD (((j_ : Int)).toNat) sg1).c), .string ((ys1.getD (((j_ : Int)).toNat) sg1).d)])), (41, I3 x_)], [(7, ⟨22, [VL B2_ n2_ c2_]⟩), (8, ⟨29, [I3 x_]⟩), (14, ⟨82, [I1 ((ys1.getD (((j_ : Int)).toNat) sg1).h.s0), I1 ((ys1.getD (((j_ : Int)).toNat) sg1).h.s1), I3 ((ys1.getD (((j_ : Int)).toNat) sg1).h.s2), I3 ((ys1.getD (((j_ : Int)).toNat) sg1).h.s3), I8 ((ys1.getD (((j_ : Int)).toNat) sg1).h.s4), I8 ((ys1.getD (((j_ : Int)).toNat) sg1).h.s5), I8 ((ys1.getD (((j_ : Int)).toNat) sg1).h.s6), I1 ((ys1.getD (((j_ : Int)).toNat) sg1).h.s7), I1 ((ys1.getD (((j_ : Int)).toNat) sg1).h.s8), I1 ((ys1.getD (((j_ : Int)).toNat) sg1).h.s9), VL ((ys1.getD (((j_ : Int)).toNat) sg1).A) ((ys1.getD (((j_ : Int)).toNat) sg1).n) ((ys1.getD (((j_ : Int)).toNat) sg1).c), VT ((ys1.getD (((j_ : Int)).toNat) sg1).d)]⟩)]⟩ ⟨⟨fun _ h => (by cases h; rfl), rfl⟩, ⟨fun _ h => (by cases h; rfl), rfl⟩, trivial⟩ ?_
   refine XD.one (i := 1) (l' := (lb 5 7)) (oA C71 [1, 1, 1, 1, 1, 1, 1, 0, 1, 0, 0, 1, 1, 0, 0, 1, 0] 1) (by kernel_rfl) (by kernel_rfl) (by kernel_rfl) ?_
   refine Cg 125 [.agg #[N1 ((ys1.getD (((j_ : Int)).toNat) sg1).h.s0), N1 ((ys1.getD (((j_ : Int)).toNat) sg1).h.s1), N3 ((ys1.getD (((j_ : Int)).toNat) sg1).h.s2), N3 ((ys1.getD (((j_ : Int)).toNat) sg1).h.s3), N8 ((ys1.getD (((j_ : Int)).toNat) sg1).h.s4), N8 ((ys1.getD (((j_ : Int)).toNat) sg1).h.s5), N8 ((ys1.getD (((j_ : Int)).toNat) sg1).h.s6), N1 ((ys1.getD (((j_ : Int)).toNat) sg1).h.s7), N1 ((ys1.getD (((j_ : Int)).toNat) sg1).h.s8), N1 ((ys1.getD (((j_ : Int)).toNat) sg1).h.s9), .slice ((ys1.getD (((j_ : Int)).toNat) sg1).A) ((ys1.getD (((j_ : Int)).toNat) sg1).n) ((ys1.getD (((j_ : Int)).toNat) sg1).c), .string ((ys1.getD (((j_ : Int)).toNat) sg1).d)]] 0 (begin_ok (ys1.getD (((j_ : Int)).toNat) sg1) _ hoki_.1) ?_
   rintro v23 G23 rows23 hG23 ⟨rfl, rfl⟩
   replace hr := hr.mono hG23.le
   replace hr1 := hr1.mono hG23.le
   refine X.back ⟨⟨⟨fun _ h => (by cases h; rfl), rfl⟩, ⟨fun _ h => (by cases h; rfl), rfl⟩, trivial⟩, hG23.le, rfl, ?_⟩
   refine Dn ⟨62, [(4, VT (⟨#[]⟩ : ByteArray)), (5, I3 0), (6, I6 0), (7, .own 7 0), (8, .own 8 0), (12, I6 ((g_ : Nat) : Int)), (14, .own 14 0), (33, VL A1 ys1.length (c - 0)), (34, I6 (ys1.length : Int)), (35, I6 (j_ : Int)), (40, I3 (begS (ys1.getD (((j_ : Int)).toNat) sg1))), (41, I3 x_)], [(7, ⟨22, [VL B2_ n2_ c2_]⟩), (8, ⟨29, [I3 x_]⟩), (14, ⟨82, [I1 ((ys1.getD (((j_ : Int)).toNat) sg1).h.s0), I1 ((ys1.getD (((j_ : Int)).toNat) sg1).h.s1), I3 ((ys1.getD (((j_ : Int)).toNat) sg1).h.s2), I3 ((ys1.getD (((j_ : Int)).toNat) sg1).h.s3), I8 ((ys1.getD (((j_ : Int)).toNat) sg1).h.s4), I8 ((ys1.getD (((j_ : Int)).toNat) sg1).h.s5), I8 ((ys1.getD (((j_ : Int)).toNat) sg1).h.s6), I1 ((ys1.getD (((j_ : Int)).toNat) sg1).h.s7), I1 ((ys1.getD (((j_ : Int)).toNat) sg1).h.s8), I1 ((ys1.getD (((j_ : Int)).toNat) sg1).h.s9), VL ((ys1.getD (((j_ : Int)).toNat) sg1).A) ((ys1.getD (((j_ : Int)).toNat) sg1).n) ((ys1.getD (((j_ : Int)).toNat) sg1).c), VT ((ys1.getD (((j_ : Int)).toNat) sg1).d)]⟩)]⟩ ⟨⟨fun _ h => (by cases h; rfl), rfl⟩, ⟨fun _ h => (by cases h; rfl), rfl⟩, trivial⟩ ?_
   refine XD.one (i := 3) (l' := (lb 5 15)) (oA C71 [1, 1, 1, 1, 1, 1, 1, 0, 1, 0, 0, 1, 1, 0, 0, 1, 0] 3) (by kernel_rfl) (by kernel_rfl) (by kernel_rfl) ?_
   obtain ⟨b_, hb_⟩ : ∃ z_, dif (begS (ys1.getD j_ sg1)) x_ = z_ := ⟨_, rfl⟩
   have hdr_ := dif_range (begS (ys1.getD j_ sg1)) x_
   rw [hb_] at hdr_
   have hah_ := ahead_ok (begS (ys1.getD (((j_ : Int)).toNat) sg1)) x_ G23
   rw [show dif (begS (ys1.getD (((j_ : Int)).toNat) sg1)) x_ = b_ from hb_] at hah_
   refine Cg 124 [N3 (begS (ys1.getD (((j_ : Int)).toNat) sg1)), N3 x_] 0 (hah_) ?_
   rintro v24 G24 rows24 hG24 ⟨rfl, rfl⟩
   replace hr := hr.mono hG24.le
   replace hr1 := hr1.mono hG24.le
   refine X.back ⟨⟨⟨fun _ h => (by cases h; rfl), rfl⟩, ⟨fun _ h => (by cases h; rfl), rfl⟩, trivial⟩, (hG23.trans hG24).le, rfl, ?_⟩
   refine Ts [4] 5 31 0 1 (QOk.scope QOk.ctxG) ?_
   refine XD.done (by kernel_rfl) ?_
   refine Rn 6 (.ops (aA C71 [1, 1, 1, 1, 1, 1, 1, 0, 1, 0, 0, 1, 1, 0, 0, 1, 1, 0]) (oA C71 [1, 1, 1, 1, 1, 1, 1, 0, 1, 0, 0, 1, 1, 0, 0, 1, 1, 0] 3 :: lA C71 [1, 1, 1, 1, 1, 1, 1, 0, 1, 0, 0, 1, 1, 0, 0, 1, 1, 0] 4)) [.seq (cA C71 [1, 1, 1, 1, 1, 1, 1, 0, 1, 0, 0, 1, 1, 0, 0, 1, 1, 1]), .blk 5, .seq (cA C71 [1, 1, 1, 1, 1, 1, 1, 0, 1, 0, 0, 1, 1, 1]), .loop J17, .blk 4, .seq (cA C71 [1, 1, 1, 1, 1, 1, 1, 1])] ⟨62, [(4, VT (⟨#[]⟩ : ByteArray)), (5, I3 0), (6, I6 0), (7, .own 7 0), (8, .own 8 0), (12, I6 ((g_ : Nat) : Int)), (14, .own 14 0), (15, I6 b_), (33, VL A1 ys1.length (c - 0)), (34, I6 (ys1.length : Int)), (35, I6 (j_ : Int)), (45, VB (decide (b_ > 0)))], [(7, ⟨22, [VL B2_ n2_ c2_]⟩), (8, ⟨29, [I3 x_]⟩), (14, ⟨82, [I1 ((ys1.getD (((j_ : Int)).toNat) sg1).h.s0), I1 ((ys1.getD (((j_ : Int)).toNat) sg1).h.s1), I3 ((ys1.getD (((j_ : Int)).toNat) sg1).h.s2), I3 ((ys1.getD (((j_ : Int)).toNat) sg1).h.s3), I8 ((ys1.getD (((j_ : Int)).toNat) sg1).h.s4), I8 ((ys1.getD (((j_ : Int)).toNat) sg1).h.s5), I8 ((ys1.getD (((j_ : Int)).toNat) sg1).h.s6), I1 ((ys1.getD (((j_ : Int)).toNat) sg1).h.s7), I1 ((ys1.getD (((j_ : Int)).toNat) sg1).h.s8), I1 ((ys1.getD (((j_ : Int)).toNat) sg1).h.s9), VL ((ys1.getD (((j_ : Int)).toNat) sg1).A) ((ys1.getD (((j_ : Int)).toNat) sg1).n) ((ys1.getD (((j_ : Int)).toNat) sg1).c), VT ((ys1.getD (((j_ : Int)).toNat) sg1).d)]⟩)]⟩ ?_
   refine X.split 45 rfl (fun h25 => ?_) (fun h25 => ?_)
   ·
    replace h25 : b_ > 0 := of_decide_eq_true h25
    refine Rn 4 (.ops (aA C71 [1, 1, 1, 1, 1, 1, 1, 0, 1, 0, 0, 1, 1, 0, 0, 1, 1, 0]) (oA C71 [1, 1, 1, 1, 1, 1, 1, 0, 1, 0, 0, 1, 1, 0, 0, 1, 1, 0] 7 :: lA C71 [1, 1, 1, 1, 1, 1, 1, 0, 1, 0, 0, 1, 1, 0, 0, 1, 1, 0] 8)) [.seq (cA C71 [1, 1, 1, 1, 1, 1, 1, 0, 1, 0, 0, 1, 1, 0, 0, 1, 1, 1]), .blk 5, .seq (cA C71 [1, 1, 1, 1, 1, 1, 1, 0, 1, 0, 0, 1, 1, 1]), .loop J17, .blk 4, .seq (cA C71 [1, 1, 1, 1, 1, 1, 1, 1])] ⟨62, [(4, VT (⟨#[]⟩ : ByteArray)), (5, I3 0), (6, I6 0), (7, .own 7 0), (8, .own 8 0), (12, I6 ((g_ : Nat) : Int)), (14, .own 14 0), (33, VL A1 ys1.length (c - 0)), (34, I6 (ys1.length : Int)), (35, I6 (j_ : Int)), (49, VB (decide (b_ ≤ 1048576)))], [(7, ⟨22, [VL B2_ n2_ c2_]⟩), (8, ⟨29, [I3 x_]⟩), (14, ⟨82, [I1 ((ys1.getD (((j_ : Int)).toNat) sg1).h.s0), I1 ((ys1.getD (((j_ : Int)).toNat) sg1).h.s1), I3 ((ys1.getD (((j_ : Int)).toNat) sg1).h.s2), I3 ((ys1.getD (((j_ : Int)).toNat) sg1).h.s3), I8 ((ys1.getD (((j_ : Int)).toNat) sg1).h.s4), I8 ((ys1.getD (((j_ : Int)).toNat) sg1).h.s5), I8 ((ys1.getD (((j_ : Int)).toNat) sg1).h.s6), I1 ((ys1.getD (((j_ : Int)).toNat) sg1).h.s7), I1 ((ys1.getD (((j_ : Int)).toNat) sg1).h.s8), I1 ((ys1.getD (((j_ : Int)).toNat) sg1).h.s9), VL ((ys1.getD (((j_ : Int)).toNat) sg1).A) ((ys1.getD (((j_ : Int)).toNat) sg1).n) ((ys1.getD (((j_ : Int)).toNat) sg1).c), VT ((ys1.getD (((j_ : Int)).toNat) sg1).d)]⟩)]⟩ ?_
    refine X.split 49 rfl (fun h26 => ?_) (fun h26 => ?_)
    ·
     replace h26 : b_ ≤ 1048576 := of_decide_eq_true h26
     refine Rn 7 (.code (cA C71 [1, 1, 1, 1, 1, 1, 1, 0, 1, 0, 0, 1, 1, 0, 0, 1, 1, 1])) [.blk 5, .seq (cA C71 [1, 1, 1, 1, 1, 1, 1, 0, 1, 0, 0, 1, 1, 1]), .loop J17, .blk 4, .seq (cA C71 [1, 1, 1, 1, 1, 1, 1, 1])] ⟨62, [(4, VT (⟨#[]⟩ : ByteArray)), (5, I3 0), (6, I6 0), (7, .own 7 0), (8, .own 8 0), (12, I6 ((g_ : Nat) : Int)), (33, VL A1 ys1.length (c - 0)), (34, I6 (ys1.length : Int)), (35, I6 (j_ : Int)), (54, VB (decide ((((ys1.getD (((j_ : Int)).toNat) sg1).d).size : Int) > 0)))], [(7, ⟨22, [VL B2_ n2_ c2_]⟩), (8, ⟨29, [I3 x_]⟩)]⟩ ?_
     refine X.split 54 rfl (fun h27 => ?_) (fun h27 => ?_)
     ·
      replace h27 : (((ys1.getD (((j_ : Int)).toNat) sg1).d).size : Int) > 0 := of_decide_eq_true h27
      refine Rn 4 (.ops (aA C71 [1, 1, 1, 1, 1, 1, 1, 0, 1, 0, 0, 1, 1, 0, 0, 1, 1, 1, 0]) (oA C71 [1, 1, 1, 1, 1, 1, 1, 0, 1, 0, 0, 1, 1, 0, 0, 1, 1, 1, 0] 2 :: lA C71 [1, 1, 1, 1, 1, 1, 1, 0, 1, 0, 0, 1, 1, 0, 0, 1, 1, 1, 0] 3)) [.blk 5, .seq (cA C71 [1, 1, 1, 1, 1, 1, 1, 0, 1, 0, 0, 1, 1, 1]), .loop J17, .blk 4, .seq (cA C71 [1, 1, 1, 1, 1, 1, 1, 1])] ⟨62, [(4, VT (⟨#[]⟩ : ByteArray)), (5, I3 0), (6, I6 0), (7, .own 7 0), (8, .own 8 0), (12, I6 ((g_ : Nat) : Int)), (33, VL A1 ys1.length (c - 0)), (34, I6 (ys1.length : Int)), (35, I6 (j_ : Int)), (56, I6 (IntKind.i64.wrap (((g_ : Nat) : Int) + 1)))], [(7, ⟨22, [VL B2_ n2_ c2_]⟩), (8, ⟨29, [I3 x_]⟩)]⟩ ?_
      refine Kn 56 .i64 ((g_ + 1 : Nat) : Int) rfl (by rw [wi64 (by omega) (by omega)]; push_cast; rfl) ?_
      refine Rn 6 (.ops (aA C71 [1, 1, 1, 1, 1, 1, 1, 0, 1, 0, 0, 1, 1, 1]) (oA C71 [1, 1, 1, 1, 1, 1, 1, 0, 1, 0, 0, 1, 1, 1] 1 :: lA C71 [1, 1, 1, 1, 1, 1, 1, 0, 1, 0, 0, 1, 1, 1] 2)) [.loop J17, .blk 4, .seq (cA C71 [1, 1, 1, 1, 1, 1, 1, 1])] ⟨62, [(4, VT (⟨#[]⟩ : ByteArray)), (5, I3 0), (6, I6 0), (7, .own 7 0), (8, .own 8 0), (12, I6 ((g_ + 1 : Nat) : Int)), (33, VL A1 ys1.length (c - 0)), (34, I6 (ys1.length : Int)), (35, I6 (j_ : Int)), (57, I6 (IntKind.i64.wrap ((j_ : Int) + 1)))], [(7, ⟨22, [VL B2_ n2_ c2_]⟩), (8, ⟨29, [I3 x_]⟩)]⟩ ?_
      refine Kn 57 .i64 ((j_ : Int) + 1) rfl (wi64 (by omega) (by omega)) ?_
      refine Rn 2 (.ex .normal) [.loop J17, .blk 4, .seq (cA C71 [1, 1, 1, 1, 1, 1, 1, 1])] ⟨62, [(4, VT (⟨#[]⟩ : ByteArray)), (5, I3 0), (6, I6 0), (7, .own 7 0), (8, .own 8 0), (12, I6 ((g_ + 1 : Nat) : Int)), (33, VL A1 ys1.length (c - 0)), (34, I6 (ys1.length : Int)), (35, I6 ((j_ : Int) + 1))], [(7, ⟨22, [VL B2_ n2_ c2_]⟩), (8, ⟨29, [I3 x_]⟩)]⟩ ?_
      have hgp_ : (isGap x_ (ys1.getD j_ sg1) = true) := by
       rw [isGap_eq, hb_]
       exact decide_eq_true (by omega)
      have hgs_ := gaps_step (n := x_) hjl_
      rw [if_pos hgp_, ← hg_] at hgs_
      exact X.again (hJ17 _ _ _ _ ⟨(j_ + 1), (g_ + 1), rfl, rfl, ((hG17.trans hG23).trans hG24), ⟨by omega, by omega, by omega⟩, rfl⟩ (by omega))
     ·
      replace h27 : ¬ ((((ys1.getD (((j_ : Int)).toNat) sg1).d).size : Int) > 0) := of_decide_eq_false h27
      refine Rn 6 (.ops (aA C71 [1, 1, 1, 1, 1, 1, 1, 0, 1, 0, 0, 1, 1, 1]) (oA C71 [1, 1, 1, 1, 1, 1, 1, 0, 1, 0, 0, 1, 1, 1] 1 :: lA C71 [1, 1, 1, 1, 1, 1, 1, 0, 1, 0, 0, 1, 1, 1] 2)) [.loop J17, .blk 4, .seq (cA C71 [1, 1, 1, 1, 1, 1, 1, 1])] ⟨62, [(4, VT (⟨#[]⟩ : ByteArray)), (5, I3 0), (6, I6 0), (7, .own 7 0), (8, .own 8 0), (12, I6 ((g_ : Nat) : Int)), (33, VL A1 ys1.length (c - 0)), (34, I6 (ys1.length : Int)), (35, I6 (j_ : Int)), (57, I6 (IntKind.i64.wrap ((j_ : Int) + 1)))], [(7, ⟨22, [VL B2_ n2_ c2_]⟩), (8, ⟨29, [I3 x_]⟩)]⟩ ?_
      refine Kn 57 .i64 ((j_ : Int) + 1) rfl (wi64 (by omega) (by omega)) ?_
      refine Rn 2 (.ex .normal) [.loop J17, .blk 4, .seq (cA C71 [1, 1, 1, 1, 1, 1, 1, 1])] ⟨62, [(4, VT (⟨#[]⟩ : ByteArray)), (5, I3 0), (6, I6 0), (7, .own 7 0), (8, .own 8 0), (12, I6 ((g_ : Nat) : Int)), (33, VL A1 ys1.length (c - 0)), (34, I6 (ys1.length : Int)), (35, I6 ((j_ : Int) + 1))], [(7, ⟨22, [VL B2_ n2_ c2_]⟩), (8, ⟨29, [I3 x_]⟩)]⟩ ?_
      have hgp_ : ¬ (isGap x_ (ys1.getD j_ sg1) = true) := by
       rw [isGap_eq, hb_]
       exact fun h_ => by have h2_ := of_decide_eq_true h_; omega
      have hgs_ := gaps_step (n := x_) hjl_
      rw [if_neg hgp_, ← hg_] at hgs_
      exact X.again (hJ17 _ _ _ _ ⟨(j_ + 1), g_, rfl, rfl, ((hG17.trans hG23).trans hG24), ⟨by omega, by omega, by omega⟩, rfl⟩ (by omega))
    ·
     replace h26 : ¬ (b_ ≤ 1048576) := of_decide_eq_false h26
     refine Rn 13 (.ops (aA C71 [1, 1, 1, 1, 1, 1, 1, 0, 1, 0, 0, 1, 1, 1]) (oA C71 [1, 1, 1, 1, 1, 1, 1, 0, 1, 0, 0, 1, 1, 1] 1 :: lA C71 [1, 1, 1, 1, 1, 1, 1, 0, 1, 0, 0, 1, 1, 1] 2)) [.loop J17, .blk 4, .seq (cA C71 [1, 1, 1, 1, 1, 1, 1, 1])] ⟨62, [(4, VT (⟨#[]⟩ : ByteArray)), (5, I3 0), (6, I6 0), (7, .own 7 0), (8, .own 8 0), (12, I6 ((g_ : Nat) : Int)), (33, VL A1 ys1.length (c - 0)), (34, I6 (ys1.length : Int)), (35, I6 (j_ : Int)), (57, I6 (IntKind.i64.wrap ((j_ : Int) + 1)))], [(7, ⟨22, [VL B2_ n2_ c2_]⟩), (8, ⟨29, [I3 x_]⟩)]⟩ ?_
     refine Kn 57 .i64 ((j_ : Int) + 1) rfl (wi64 (by omega) (by omega)) ?_
     refine Rn 2 (.ex .normal) [.loop J17, .blk 4, .seq (cA C71 [1, 1, 1, 1, 1, 1, 1, 1])] ⟨62, [(4, VT (⟨#[]⟩ : ByteArray)), (5, I3 0), (6, I6 0), (7, .own 7 0), (8, .own 8 0), (12, I6 ((g_ : Nat) : Int)), (33, VL A1 ys1.length (c - 0)), (34, I6 (ys1.length : Int)), (35, I6 ((j_ : Int) + 1))], [(7, ⟨22, [VL B2_ n2_ c2_]⟩), (8, ⟨29, [I3 x_]⟩)]⟩ ?_
     have hgp_ : ¬ (isGap x_ (ys1.getD j_ sg1) = true) := by
      rw [isGap_eq, hb_]
      exact fun h_ => by have h2_ := of_decide_eq_true h_; omega
     have hgs_ := gaps_step (n := x_) hjl_
     rw [if_neg hgp_, ← hg_] at hgs_
     exact X.again (hJ17 _ _ _ _ ⟨(j_ + 1), g_, rfl, rfl, ((hG17.trans hG23).trans hG24), ⟨by omega, by omega, by omega⟩, rfl⟩ (by omega))
   ·
    replace h25 : ¬ (b_ > 0) := of_decide_eq_false h25
    refine Rn 17 (.ops (aA C71 [1, 1, 1, 1, 1, 1, 1, 0, 1, 0, 0, 1, 1, 1]) (oA C71 [1, 1, 1, 1, 1, 1, 1, 0, 1, 0, 0, 1, 1, 1] 1 :: lA C71 [1, 1, 1, 1, 1, 1, 1, 0, 1, 0, 0, 1, 1, 1] 2)) [.loop J17, .blk 4, .seq (cA C71 [1, 1, 1, 1, 1, 1, 1, 1])] ⟨62, [(4, VT (⟨#[]⟩ : ByteArray)), (5, I3 0), (6, I6 0), (7, .own 7 0), (8, .own 8 0), (12, I6 ((g_ : Nat) : Int)), (33, VL A1 ys1.length (c - 0)), (34, I6 (ys1.length : Int)), (35, I6 (j_ : Int)), (57, I6 (IntKind.i64.wrap ((j_ : Int) + 1)))], [(7, ⟨22, [VL B2_ n2_ c2_]⟩), (8, ⟨29, [I3 x_]⟩)]⟩ ?_
    refine Kn 57 .i64 ((j_ : Int) + 1) rfl (wi64 (by omega) (by omega)) ?_
    refine Rn 2 (.ex .normal) [.loop J17, .blk 4, .seq (cA C71 [1, 1, 1, 1, 1, 1, 1, 1])] ⟨62, [(4, VT (⟨#[]⟩ : ByteArray)), (5, I3 0), (6, I6 0), (7, .own 7 0), (8, .own 8 0), (12, I6 ((g_ : Nat) : Int)), (33, VL A1 ys1.length (c - 0)), (34, I6 (ys1.length : Int)), (35, I6 ((j_ : Int) + 1))], [(7, ⟨22, [VL B2_ n2_ c2_]⟩), (8, ⟨29, [I3 x_]⟩)]⟩ ?_
    have hgp_ : ¬ (isGap x_ (ys1.getD j_ sg1) = true) := by
     rw [isGap_eq, hb_]
     exact fun h_ => by have h2_ := of_decide_eq_true h_; omega
    have hgs_ := gaps_step (n := x_) hjl_
    rw [if_neg hgp_, ← hg_] at hgs_
    exact X.again (hJ17 _ _ _ _ ⟨(j_ + 1), g_, rfl, rfl, ((hG17.trans hG23).trans hG24), ⟨by omega, by omega, by omega⟩, rfl⟩ (by omega))
  ·
   replace h18 : ¬ ((j_ : Int) < ((ys1.length : Nat) : Int)) := of_decide_eq_false h18
   have hje_ : ys1.length ≤ j_ := by omega
   rw [gaps_all hje_] at hg_
   refine Rn 7 (.code (cA C71 [1, 1, 1, 1, 1, 1, 1, 1, 0])) [.seq (cA C71 [1, 1, 1, 1, 1, 1, 1, 1, 1])] ⟨62, [(4, VT (⟨#[]⟩ : ByteArray)), (5, I3 0), (6, I6 0), (7, .own 7 0), (8, .own 8 0), (12, I6 ((g_ : Nat) : Int))], [(7, ⟨22, [VL B2_ n2_ c2_]⟩), (8, ⟨29, [I3 x_]⟩)]⟩ ?_
   have hr_d28 := hr
   have hr1_d28 := hr1
   refine XD.open (id := 18) (arr := aA C71 [1, 1, 1, 1, 1, 1, 1, 1, 0]) 7 [⟨some 7, 7, 22, [VL B2_ n2_ c2_]⟩, ⟨some 8, 8, 29, [I3 x_]⟩] [] [] (by kernel_rfl) (by kernel_rfl) (by kernel_rfl) (by kernel_rfl) (by kernel_rfl) ⟨⟨fun _ h => (by cases h; rfl), rfl⟩, ⟨fun _ h => (by cases h; rfl), rfl⟩, trivial⟩ (by intro p hp hn; simp only [List.mem_cons, List.not_mem_nil, or_false] at hp; rcases hp with rfl | rfl <;> first | (cases hn; done) | exact absurd _ (Nat.le_of_ble_eq_true rfl)) rfl (fun ρ0 => ?_)
   refine Ts [0, 2, 3] 7 13 4 7 (QOk.scope QOk.ctxG) ?_
   refine Dn ⟨62, [(4, VT (⟨#[]⟩ : ByteArray)), (5, I3 0), (6, I6 0), (7, .own 7 0), (8, .own 8 0), (58, VL B2_ n2_ c2_), (60, I3 x_), (61, I6 ((g_ : Nat) : Int))], [(7, ⟨22, [VL B2_ n2_ c2_]⟩), (8, ⟨29, [I3 x_]⟩)]⟩ ⟨⟨fun _ h => (by cases h; rfl), rfl⟩, ⟨fun _ h => (by cases h; rfl), rfl⟩, trivial⟩ ?_
   refine XD.one (i := 1) (l' := (lb 7 15)) (oA C71 [1, 1, 1, 1, 1, 1, 1, 1, 0] 1) (by kernel_rfl) (by kernel_rfl) (by kernel_rfl) ?_
   refine X.toStrW (src := 22) (dst := 9) (e := 5) (n := n2_) (c := c2_) (A := B2_) (x := .tmp 58) (bytesL d_) (by kernel_rfl) (by kernel_rfl) (by kernel_rfl) (by kernel_rfl) (by kernel_rfl) (by rw [bytesL_length]; omega) (At.of_row (i := 300) (r := (RR 5 1 B2_ n2_ c2_ ((bytesL d_).map (Value.int .u8)))) rfl rfl) (fun w hw e => (rowNone2 (i := 300) (q := (RR 5 1 B2_ n2_ c2_ ((bytesL d_).map (Value.int .u8)))) rfl rfl w hw e).1) (by kernel_rfl) ?_
   refine X.back ⟨⟨⟨fun _ h => (by cases h; rfl), rfl⟩, ⟨fun _ h => (by cases h; rfl), rfl⟩, trivial⟩, Le.refl _, rfl, ?_⟩
   refine Ts [4, 5, 6] 7 127 0 3 (QOk.scope QOk.ctxG) ?_
   refine XD.done (by kernel_rfl) ?_
   refine Rn 2 (.ex .ret) [] ⟨62, [(4, VT (strOf (bytesL d_))), (5, I3 x_), (6, I6 ((g_ : Nat) : Int))], []⟩ ?_
   refine X.scopeEnd (fun _ h => by cases h) ?_
   refine Rn 0 (.ex .ret) [] ⟨62, [(4, VT (strOf (bytesL d_))), (5, I3 x_), (6, I6 ((g_ : Nat) : Int))], []⟩ ?_
   refine Dg (.inl rfl) [.string (strOf (bytesL d_)), N3 x_, N6 ((g_ : Nat) : Int)] [] rfl (((hG2.trans hG3).trans hG17)) ?_
   rw [strOf_bytesL, hg_]
   rw [hy_] at *
   exact ⟨_, _, hgd2_, rfl, rfl⟩
end Go.Proofs.YtjgpdbkkpomhjaaX
