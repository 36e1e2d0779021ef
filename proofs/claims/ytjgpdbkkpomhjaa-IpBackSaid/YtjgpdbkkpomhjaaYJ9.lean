/- ip.Hop, ip.Mark. Walked; printed by a small program of this session. Conditions: none. -/
import Derived.Test.YtjgpdbkkpomhjaaProg
import Derived.KernelRfl
import Derived.Test.YtjgpdbkkpomhjaaYJ2
import Derived.Test.YtjgpdbkkpomhjaaYJ5
import Derived.Test.YtjgpdbkkpomhjaaYJ8
namespace Go.Proofs.YtjgpdbkkpomhjaaX
open Go.RowKit
open Go.Proofs.YtjgpdbkkpomhjaaW.PrintLast
set_option linter.unusedVariables false
set_option linter.unusedSimpArgs false
set_option maxRecDepth 100000
/-- leat/ip.Hop -/
noncomputable def B87 : Code := bodyOf Try.f87
set_option maxHeartbeats 1000000 in
theorem Hop_ok (A : Option Addr) (c : Nat) (b : List Int) (G : Mem) (hb : rowAt (D.int .u8) G A b) (hle : b.length ≤ c) (hmx : c ≤ maxLen) : CallsG Try.prog 87 [.slice A b.length c] G (fun _ v rows => ∃ A' c', v = .tuple #[.slice A' (hopI b).1.length c', .int .i64 (hopI b).2] ∧ rows = [⟨5, 1, .slice A' (hopI b).1.length c', (hopI b).1.length, (hopI b).1.map (Value.int .u8)⟩]) := by
 simp only [maxLen] at hmx
 refine CallsG.enter Try.func87 rfl rfl ?_
 intro w
 refine Rn 9 (Qo B87 6 1) [Qs B87 7] ⟨30, [(2, VL none 0 0), (3, I6 0), (8, VL A b.length c)], []⟩ ?_
 refine Cg 80 [.slice A b.length c] 0 (DecI_ok A c b _ hb hle hmx) ?_
 rintro v1 G1 rows1 hG1 ⟨rfl, rfl⟩
 replace hb := hb.mono hG1.le
 obtain ⟨h1_, d1_, e1_, hd1_⟩ : ∃ h d e, decI b = ((h, d), e) := ⟨_, _, _, rfl⟩
 obtain ⟨hh1_, hz1_, hz21_, hf1_⟩ : h1_.ok ∧ d1_.size ≤ (b).length ∧ d1_.size ≤ 65515 ∧ h1_.x4 < 32768 := by
  have h_ := decI_ok (b := b) (row_bytes hb)
  rw [hd1_] at h_
  exact h_
 rw [hd1_]
 refine Rn 19 (Qc B87 57) [.blk 0, Qs B87 15] ⟨30, [(2, VL none 0 0), (3, I6 0), (4, .own 4 0), (5, VT d1_), (6, I6 e1_), (13, VB (e1_ != 0))], [(4, ⟨113, [I8 h1_.x0, I8 h1_.x1, I8 h1_.x2, I1 h1_.x3, I1 h1_.x4, I8 h1_.x5, I8 h1_.x6, I8 h1_.x7, I8 h1_.x8, I8 h1_.x9, I8 h1_.y0, I8 h1_.y1, I8 h1_.y2]⟩)]⟩ ?_
 refine X.split 13 rfl (fun h2 => ?_) (fun h2 => ?_)
 ·
  replace h2 : e1_ ≠ 0 := by simpa using h2
  have he_ : e1_ ≠ 0 := h2
  refine X.nilRow 390 5 1 rfl ?_
  refine Rn 11 (.ex .ret) [] ⟨30, [(2, VL none 0 0), (3, I6 e1_)], []⟩ ?_
  refine Dg (.inl rfl) [.slice none 0 0, N6 e1_] [390] rfl (hG1) ?_
  rw [hopI_err hd1_ he_]
  exact ⟨none, 0, rfl, rfl⟩
 ·
  replace h2 : e1_ = 0 := by simpa using h2
  have he_ : e1_ = 0 := h2
  obtain ⟨g0_, g1_, g2_, g3_, g4_, g5_, g6_, g7_, g8_, g9_, j0_, j1_, j2_⟩ := hh1_
  have hh1_ : h1_.ok := ⟨g0_, g1_, g2_, g3_, g4_, g5_, g6_, g7_, g8_, g9_, j0_, j1_, j2_⟩
  refine Rn 9 (Qc B87 231) [.blk 0, Qs B87 15] ⟨30, [(2, VL none 0 0), (3, I6 0), (4, .own 4 0), (5, VT d1_), (17, VB (decide (h1_.x1 < 2)))], [(4, ⟨113, [I8 h1_.x0, I8 h1_.x1, I8 h1_.x2, I1 h1_.x3, I1 h1_.x4, I8 h1_.x5, I8 h1_.x6, I8 h1_.x7, I8 h1_.x8, I8 h1_.x9, I8 h1_.y0, I8 h1_.y1, I8 h1_.y2]⟩)]⟩ ?_
  refine X.split 17 rfl (fun h3 => ?_) (fun h3 => ?_)
  ·
   replace h3 : h1_.x1 < 2 := of_decide_eq_true h3
   have hq1_ : h1_.x1 < 2 := by omega
   refine X.nilRow 390 5 1 rfl ?_
   refine Rn 10 (.ex .ret) [] ⟨30, [(2, VL none 0 0), (3, I6 10)], []⟩ ?_
   refine Dg (.inl rfl) [.slice none 0 0, N6 10] [390] rfl (hG1) ?_
   rw [hopI_old hd1_ he_ hq1_]
   exact ⟨none, 0, rfl, rfl⟩
  ·
   replace h3 : ¬ (h1_.x1 < 2) := of_decide_eq_false h3
   have hq1_ : ¬ h1_.x1 < 2 := by omega
   refine Rn 9 (Qo B87 30 3) [Qs B87 31] ⟨30, [(2, VL none 0 0), (3, I6 0), (4, .own 4 0), (5, VT d1_), (23, I8 (IntKind.u8.wrap (h1_.x1 - 1)))], [(4, ⟨113, [I8 h1_.x0, I8 h1_.x1, I8 h1_.x2, I1 h1_.x3, I1 h1_.x4, I8 h1_.x5, I8 h1_.x6, I8 h1_.x7, I8 h1_.x8, I8 h1_.x9, I8 h1_.y0, I8 h1_.y1, I8 h1_.y2]⟩)]⟩ ?_
   refine Kn 23 .u8 (h1_.x1 - 1) rfl (wu8 (by omega) (by omega)) ?_
   refine Rn 8 (Qo B87 62 2) [Qs B87 63] ⟨30, [(2, VL none 0 0), (3, I6 0), (25, .v (.agg #[N8 h1_.x0, N8 (h1_.x1 - 1), N8 h1_.x2, N1 h1_.x3, N1 h1_.x4, N8 h1_.x5, N8 h1_.x6, N8 h1_.x7, N8 h1_.x8, N8 h1_.x9, N8 h1_.y0, N8 h1_.y1, N8 h1_.y2])), (26, VT d1_)], []⟩ ?_
   refine Cg 78 [.agg #[N8 h1_.x0, N8 (h1_.x1 - 1), N8 h1_.x2, N1 h1_.x3, N1 h1_.x4, N8 h1_.x5, N8 h1_.x6, N8 h1_.x7, N8 h1_.x8, N8 h1_.x9, N8 h1_.y0, N8 h1_.y1, N8 h1_.y2], .string d1_] 647 (EncI_ok (ttlI h1_) d1_ _ (ttlI_ok hh1_ (by omega)) (by simp only [maxLen]; omega)) ?_
   rintro v4 G4 rows4 hG4 ⟨A4, c4, rfl, rfl⟩
   replace hb := hb.mono hG4.le
   refine X.asR (R' := [(647, RR 5 1 A4 ((encI (ttlI h1_) d1_).1.length) c4 (((encI (ttlI h1_) d1_).1).map (Value.int .u8)))]) rfl ?_
   refine Rn 7 (.ex .ret) [] ⟨30, [(2, VL A4 ((encI (ttlI h1_) d1_).1.length) c4), (3, I6 ((encI (ttlI h1_) d1_).2))], []⟩ ?_
   refine Dg (.inl rfl) [.slice A4 ((encI (ttlI h1_) d1_).1.length) c4, N6 ((encI (ttlI h1_) d1_).2)] [647] rfl ((hG1.trans hG4)) ?_
   rw [hopI_fine hd1_ he_ hq1_]
   exact ⟨_, _, rfl, rfl⟩
/-- leat/ip.Mark -/
noncomputable def B86 : Code := bodyOf Try.f86
set_option maxHeartbeats 1000000 in
theorem Mark_ok (A : Option Addr) (c : Nat) (b : List Int) (G : Mem) (hb : rowAt (D.int .u8) G A b) (hle : b.length ≤ c) (hmx : c ≤ maxLen) : CallsG Try.prog 86 [.slice A b.length c] G (fun _ v rows => ∃ A' c', v = .tuple #[.slice A' (markI b).1.length c', .int .i64 (markI b).2] ∧ rows = [⟨5, 1, .slice A' (markI b).1.length c', (markI b).1.length, (markI b).1.map (Value.int .u8)⟩]) := by
 simp only [maxLen] at hmx
 refine CallsG.enter Try.func86 rfl rfl ?_
 intro w
 refine Rn 9 (Qo B86 6 1) [Qs B86 7] ⟨37, [(2, VL none 0 0), (3, I6 0), (10, VL A b.length c)], []⟩ ?_
 refine Cg 80 [.slice A b.length c] 0 (DecI_ok A c b _ hb hle hmx) ?_
 rintro v1 G1 rows1 hG1 ⟨rfl, rfl⟩
 replace hb := hb.mono hG1.le
 obtain ⟨h1_, d1_, e1_, hd1_⟩ : ∃ h d e, decI b = ((h, d), e) := ⟨_, _, _, rfl⟩
 obtain ⟨hh1_, hz1_, hz21_, hf1_⟩ : h1_.ok ∧ d1_.size ≤ (b).length ∧ d1_.size ≤ 65515 ∧ h1_.x4 < 32768 := by
  have h_ := decI_ok (b := b) (row_bytes hb)
  rw [hd1_] at h_
  exact h_
 rw [hd1_]
 refine Rn 17 (Qc B86 29) [Qs B86 15] ⟨37, [(2, VL none 0 0), (3, I6 0), (4, .own 4 0), (5, VT d1_), (6, I6 e1_), (16, VB (e1_ != 0))], [(4, ⟨113, [I8 h1_.x0, I8 h1_.x1, I8 h1_.x2, I1 h1_.x3, I1 h1_.x4, I8 h1_.x5, I8 h1_.x6, I8 h1_.x7, I8 h1_.x8, I8 h1_.x9, I8 h1_.y0, I8 h1_.y1, I8 h1_.y2]⟩)]⟩ ?_
 refine X.split 16 rfl (fun h2 => ?_) (fun h2 => ?_)
 ·
  replace h2 : e1_ ≠ 0 := by simpa using h2
  have he_ : e1_ ≠ 0 := h2
  refine X.nilRow 390 5 1 rfl ?_
  refine Rn 10 (.ex .ret) [] ⟨37, [(2, VL none 0 0), (3, I6 e1_)], []⟩ ?_
  refine Dg (.inl rfl) [.slice none 0 0, N6 e1_] [390] rfl (hG1) ?_
  rw [markI_err hd1_ he_]
  exact ⟨none, 0, rfl, rfl⟩
 ·
  replace h2 : e1_ = 0 := by simpa using h2
  have he_ : e1_ = 0 := h2
  obtain ⟨g0_, g1_, g2_, g3_, g4_, g5_, g6_, g7_, g8_, g9_, j0_, j1_, j2_⟩ := hh1_
  have hh1_ : h1_.ok := ⟨g0_, g1_, g2_, g3_, g4_, g5_, g6_, g7_, g8_, g9_, j0_, j1_, j2_⟩
  refine Rn 7 (Qo B86 30 2) [Qs B86 31] ⟨37, [(2, VL none 0 0), (3, I6 0), (4, .own 4 0), (5, VT d1_), (20, I8 h1_.x0)], [(4, ⟨113, [I8 h1_.x0, I8 h1_.x1, I8 h1_.x2, I1 h1_.x3, I1 h1_.x4, I8 h1_.x5, I8 h1_.x6, I8 h1_.x7, I8 h1_.x8, I8 h1_.x9, I8 h1_.y0, I8 h1_.y1, I8 h1_.y2]⟩)]⟩ ?_
  refine Cg 149 [N8 h1_.x0] 0 (Of_ok h1_.x0 _ (by omega)) ?_
  rintro v3 G3 rows3 hG3 ⟨rfl, rfl⟩
  replace hb := hb.mono hG3.le
  refine Rn 0 (Qo B86 30 3) [Qs B86 31] ⟨37, [(2, VL none 0 0), (3, I6 0), (4, .own 4 0), (5, VT d1_), (21, I6 (h1_.x0 % 4))], [(4, ⟨113, [I8 h1_.x0, I8 h1_.x1, I8 h1_.x2, I1 h1_.x3, I1 h1_.x4, I8 h1_.x5, I8 h1_.x6, I8 h1_.x7, I8 h1_.x8, I8 h1_.x9, I8 h1_.y0, I8 h1_.y1, I8 h1_.y2]⟩)]⟩ ?_
  refine Cg 148 [N6 (h1_.x0 % 4)] 0 (ecnMark_ok (h1_.x0 % 4) _) ?_
  rintro v4 G4 rows4 hG4 ⟨rfl, rfl⟩
  replace hb := hb.mono hG4.le
  refine Rn 14 (Qc B86 125) [Qs B86 63] ⟨37, [(2, VL none 0 0), (3, I6 0), (4, .own 4 0), (5, VT d1_), (7, I6 ((ecnM (h1_.x0 % 4)).1)), (26, VB (!((ecnM (h1_.x0 % 4)).2)))], [(4, ⟨113, [I8 h1_.x0, I8 h1_.x1, I8 h1_.x2, I1 h1_.x3, I1 h1_.x4, I8 h1_.x5, I8 h1_.x6, I8 h1_.x7, I8 h1_.x8, I8 h1_.x9, I8 h1_.y0, I8 h1_.y1, I8 h1_.y2]⟩)]⟩ ?_
  refine X.split 26 rfl (fun h5 => ?_) (fun h5 => ?_)
  ·
   replace h5 : ((ecnM (h1_.x0 % 4)).2) = false := by first | (simpa using h5; done) | (have h_ := congrArg (fun b_ => !b_) h5; simpa only [Bool.not_not, Bool.not_true, Bool.not_false] using h_)
   have hq1_ : h1_.x0 % 4 = 0 := by
    have h_ := h5
    unfold ecnM at h_
    split at h_
    · cases h_
    · omega
   refine X.nilRow 390 5 1 rfl ?_
   refine Rn 9 (.ex .ret) [] ⟨37, [(2, VL none 0 0), (3, I6 7)], []⟩ ?_
   refine Dg (.inl rfl) [.slice none 0 0, N6 7] [390] rfl (((hG1.trans hG3).trans hG4)) ?_
   rw [markI_kind hd1_ he_ hq1_]
   exact ⟨none, 0, rfl, rfl⟩
  ·
   replace h5 : ((ecnM (h1_.x0 % 4)).2) = true := by first | (simpa using h5; done) | (have h_ := congrArg (fun b_ => !b_) h5; simpa only [Bool.not_not, Bool.not_true, Bool.not_false] using h_)
   have hq1_ : ¬ h1_.x0 % 4 = 0 := by
    have h_ := h5
    unfold ecnM at h_
    split at h_
    · omega
    · cases h_
   have hm3_ : (ecnM (h1_.x0 % 4)).1 = 3 := by unfold ecnM; rw [if_pos (by omega)]
   refine Rn 8 (Qo B86 126 3) [Qs B86 127] ⟨37, [(2, VL none 0 0), (3, I6 0), (4, .own 4 0), (5, VT d1_), (28, I8 h1_.x0), (29, I6 ((ecnM (h1_.x0 % 4)).1))], [(4, ⟨113, [I8 h1_.x0, I8 h1_.x1, I8 h1_.x2, I1 h1_.x3, I1 h1_.x4, I8 h1_.x5, I8 h1_.x6, I8 h1_.x7, I8 h1_.x8, I8 h1_.x9, I8 h1_.y0, I8 h1_.y1, I8 h1_.y2]⟩)]⟩ ?_
   refine Kn 29 .i64 3 rfl (hm3_) ?_
   refine Cg 143 [N8 h1_.x0, N6 3] 0 (Put_ok h1_.x0 3 _ (by omega) (by omega)) ?_
   rintro v6 G6 rows6 hG6 ⟨rfl, rfl⟩
   replace hb := hb.mono hG6.le
   refine Rn 8 (Qo B86 254 2) [Qs B86 255] ⟨37, [(2, VL none 0 0), (3, I6 0), (32, .v (.agg #[N8 (putT h1_.x0 3), N8 h1_.x1, N8 h1_.x2, N1 h1_.x3, N1 h1_.x4, N8 h1_.x5, N8 h1_.x6, N8 h1_.x7, N8 h1_.x8, N8 h1_.x9, N8 h1_.y0, N8 h1_.y1, N8 h1_.y2])), (33, VT d1_)], []⟩ ?_
   refine Cg 78 [.agg #[N8 (putT h1_.x0 3), N8 h1_.x1, N8 h1_.x2, N1 h1_.x3, N1 h1_.x4, N8 h1_.x5, N8 h1_.x6, N8 h1_.x7, N8 h1_.x8, N8 h1_.x9, N8 h1_.y0, N8 h1_.y1, N8 h1_.y2], .string d1_] 654 (EncI_ok (tosI h1_ (putT h1_.x0 3)) d1_ _ (tosI_ok hh1_ (by unfold putT; omega)) (by simp only [maxLen]; omega)) ?_
   rintro v7 G7 rows7 hG7 ⟨A7, c7, rfl, rfl⟩
   replace hb := hb.mono hG7.le
   refine X.asR (R' := [(654, RR 5 1 A7 ((encI (tosI h1_ (putT h1_.x0 3)) d1_).1.length) c7 (((encI (tosI h1_ (putT h1_.x0 3)) d1_).1).map (Value.int .u8)))]) rfl ?_
   refine Rn 7 (.ex .ret) [] ⟨37, [(2, VL A7 ((encI (tosI h1_ (putT h1_.x0 3)) d1_).1.length) c7), (3, I6 ((encI (tosI h1_ (putT h1_.x0 3)) d1_).2))], []⟩ ?_
   refine Dg (.inl rfl) [.slice A7 ((encI (tosI h1_ (putT h1_.x0 3)) d1_).1.length) c7, N6 ((encI (tosI h1_ (putT h1_.x0 3)) d1_).2)] [654] rfl (((((hG1.trans hG3).trans hG4).trans hG6).trans hG7)) ?_
   rw [markI_fine hd1_ he_ hq1_]
   exact ⟨_, _, rfl, rfl⟩
end Go.Proofs.YtjgpdbkkpomhjaaX
