/- leatref46.Hop, Mark. Walked; printed by a small program of this session. Conditions: none. -/
import Derived.Test.YtjgpdbkkpomhjaaProg
import Derived.KernelRfl
import Derived.Test.YtjgpdbkkpomhjaaYJ3
import Derived.Test.YtjgpdbkkpomhjaaYJ6
import Derived.Test.YtjgpdbkkpomhjaaYJ8
namespace Go.Proofs.YtjgpdbkkpomhjaaX
open Go.RowKit
open Go.Proofs.YtjgpdbkkpomhjaaW.PrintLast
set_option linter.unusedVariables false
set_option linter.unusedSimpArgs false
set_option maxRecDepth 100000
/-- leat/leatref46.Hop -/
noncomputable def B88 : Code := bodyOf Try.f88
set_option maxHeartbeats 1000000 in
theorem RHop_ok (A : Option Addr) (c : Nat) (b : List Int) (G : Mem) (hb : rowAt (D.int .u8) G A b) (hle : b.length ≤ c) (hmx : c ≤ maxLen) : CallsG Try.prog 88 [.slice A b.length c] G (fun _ v rows => ∃ A' c', v = .tuple #[.slice A' (hopI b).1.length c', .int .i64 (hopI b).2] ∧ rows = [⟨5, 1, .slice A' (hopI b).1.length c', (hopI b).1.length, (hopI b).1.map (Value.int .u8)⟩]) := by
 simp only [maxLen] at hmx
 refine CallsG.enter Try.func88 rfl rfl ?_
 intro w
 refine Rn 9 (Qo B88 6 1) [Qs B88 7] ⟨28, [(2, VL none 0 0), (3, I6 0), (8, VL A b.length c)], []⟩ ?_
 refine Cg 81 [.slice A b.length c] 0 (RDecI_ok A c b _ hb hle hmx) ?_
 rintro v1 G1 rows1 hG1 ⟨rfl, rfl⟩
 replace hb := hb.mono hG1.le
 obtain ⟨h1_, d1_, e1_, hd1_⟩ : ∃ h d e, decI b = ((h, d), e) := ⟨_, _, _, rfl⟩
 obtain ⟨hh1_, hz1_, hz21_, hf1_⟩ : h1_.ok ∧ d1_.size ≤ (b).length ∧ d1_.size ≤ 65515 ∧ h1_.x4 < 32768 := by
  have h_ := decI_ok (b := b) (row_bytes hb)
  rw [hd1_] at h_
  exact h_
 rw [hd1_]
 refine Rn 17 (Qc B88 29) [Qs B88 15] ⟨28, [(2, VL none 0 0), (3, I6 0), (4, .own 4 0), (5, VT d1_), (6, I6 e1_), (14, VB (e1_ != 0))], [(4, ⟨113, [I8 h1_.x0, I8 h1_.x1, I8 h1_.x2, I1 h1_.x3, I1 h1_.x4, I8 h1_.x5, I8 h1_.x6, I8 h1_.x7, I8 h1_.x8, I8 h1_.x9, I8 h1_.y0, I8 h1_.y1, I8 h1_.y2]⟩)]⟩ ?_
 refine X.split 14 rfl (fun h2 => ?_) (fun h2 => ?_)
 ·
  replace h2 : e1_ ≠ 0 := by simpa using h2
  have he_ : e1_ ≠ 0 := h2
  refine X.nilRow 390 5 1 rfl ?_
  refine Rn 10 (.ex .ret) [] ⟨28, [(2, VL none 0 0), (3, I6 e1_)], []⟩ ?_
  refine Dg (.inl rfl) [.slice none 0 0, N6 e1_] [390] rfl (hG1) ?_
  rw [hopI_err hd1_ he_]
  exact ⟨none, 0, rfl, rfl⟩
 ·
  replace h2 : e1_ = 0 := by simpa using h2
  have he_ : e1_ = 0 := h2
  obtain ⟨g0_, g1_, g2_, g3_, g4_, g5_, g6_, g7_, g8_, g9_, j0_, j1_, j2_⟩ := hh1_
  have hh1_ : h1_.ok := ⟨g0_, g1_, g2_, g3_, g4_, g5_, g6_, g7_, g8_, g9_, j0_, j1_, j2_⟩
  refine Rn 11 (Qc B88 61) [Qs B88 31] ⟨28, [(2, VL none 0 0), (3, I6 0), (4, .own 4 0), (5, VT d1_), (18, VB (decide (h1_.x1 < 2)))], [(4, ⟨113, [I8 h1_.x0, I8 h1_.x1, I8 h1_.x2, I1 h1_.x3, I1 h1_.x4, I8 h1_.x5, I8 h1_.x6, I8 h1_.x7, I8 h1_.x8, I8 h1_.x9, I8 h1_.y0, I8 h1_.y1, I8 h1_.y2]⟩)]⟩ ?_
  refine X.split 18 rfl (fun h3 => ?_) (fun h3 => ?_)
  ·
   replace h3 : h1_.x1 < 2 := of_decide_eq_true h3
   have hq1_ : h1_.x1 < 2 := by omega
   refine X.nilRow 390 5 1 rfl ?_
   refine Rn 9 (.ex .ret) [] ⟨28, [(2, VL none 0 0), (3, I6 10)], []⟩ ?_
   refine Dg (.inl rfl) [.slice none 0 0, N6 10] [390] rfl (hG1) ?_
   rw [hopI_old hd1_ he_ hq1_]
   exact ⟨none, 0, rfl, rfl⟩
  ·
   replace h3 : ¬ (h1_.x1 < 2) := of_decide_eq_false h3
   have hq1_ : ¬ h1_.x1 < 2 := by omega
   refine Rn 8 (Qo B88 62 3) [Qs B88 63] ⟨28, [(2, VL none 0 0), (3, I6 0), (4, .own 4 0), (5, VT d1_), (21, I8 (IntKind.u8.wrap (h1_.x1 - 1)))], [(4, ⟨113, [I8 h1_.x0, I8 h1_.x1, I8 h1_.x2, I1 h1_.x3, I1 h1_.x4, I8 h1_.x5, I8 h1_.x6, I8 h1_.x7, I8 h1_.x8, I8 h1_.x9, I8 h1_.y0, I8 h1_.y1, I8 h1_.y2]⟩)]⟩ ?_
   refine Kn 21 .u8 (h1_.x1 - 1) rfl (wu8 (by omega) (by omega)) ?_
   refine Rn 8 (Qo B88 126 2) [Qs B88 127] ⟨28, [(2, VL none 0 0), (3, I6 0), (23, .v (.agg #[N8 h1_.x0, N8 (h1_.x1 - 1), N8 h1_.x2, N1 h1_.x3, N1 h1_.x4, N8 h1_.x5, N8 h1_.x6, N8 h1_.x7, N8 h1_.x8, N8 h1_.x9, N8 h1_.y0, N8 h1_.y1, N8 h1_.y2])), (24, VT d1_)], []⟩ ?_
   refine Cg 79 [.agg #[N8 h1_.x0, N8 (h1_.x1 - 1), N8 h1_.x2, N1 h1_.x3, N1 h1_.x4, N8 h1_.x5, N8 h1_.x6, N8 h1_.x7, N8 h1_.x8, N8 h1_.x9, N8 h1_.y0, N8 h1_.y1, N8 h1_.y2], .string d1_] 645 (REncI_ok (ttlI h1_) d1_ _ (ttlI_ok hh1_ (by omega)) (by simp only [maxLen]; omega)) ?_
   rintro v4 G4 rows4 hG4 ⟨A4, c4, rfl, rfl⟩
   replace hb := hb.mono hG4.le
   refine X.asR (R' := [(645, RR 5 1 A4 ((encI (ttlI h1_) d1_).1.length) c4 (((encI (ttlI h1_) d1_).1).map (Value.int .u8)))]) rfl ?_
   refine Rn 7 (.ex .ret) [] ⟨28, [(2, VL A4 ((encI (ttlI h1_) d1_).1.length) c4), (3, I6 ((encI (ttlI h1_) d1_).2))], []⟩ ?_
   refine Dg (.inl rfl) [.slice A4 ((encI (ttlI h1_) d1_).1.length) c4, N6 ((encI (ttlI h1_) d1_).2)] [645] rfl ((hG1.trans hG4)) ?_
   rw [hopI_fine hd1_ he_ hq1_]
   exact ⟨_, _, rfl, rfl⟩
/-- leat/leatref46.Mark -/
noncomputable def B89 : Code := bodyOf Try.f89
set_option maxHeartbeats 1000000 in
theorem RMark_ok (A : Option Addr) (c : Nat) (b : List Int) (G : Mem) (hb : rowAt (D.int .u8) G A b) (hle : b.length ≤ c) (hmx : c ≤ maxLen) : CallsG Try.prog 89 [.slice A b.length c] G (fun _ v rows => ∃ A' c', v = .tuple #[.slice A' (markI b).1.length c', .int .i64 (markI b).2] ∧ rows = [⟨5, 1, .slice A' (markI b).1.length c', (markI b).1.length, (markI b).1.map (Value.int .u8)⟩]) := by
 simp only [maxLen] at hmx
 refine CallsG.enter Try.func89 rfl rfl ?_
 intro w
 refine Rn 9 (Qo B89 6 1) [Qs B89 7] ⟨29, [(2, VL none 0 0), (3, I6 0), (8, VL A b.length c)], []⟩ ?_
 refine Cg 81 [.slice A b.length c] 0 (RDecI_ok A c b _ hb hle hmx) ?_
 rintro v1 G1 rows1 hG1 ⟨rfl, rfl⟩
 replace hb := hb.mono hG1.le
 obtain ⟨h1_, d1_, e1_, hd1_⟩ : ∃ h d e, decI b = ((h, d), e) := ⟨_, _, _, rfl⟩
 obtain ⟨hh1_, hz1_, hz21_, hf1_⟩ : h1_.ok ∧ d1_.size ≤ (b).length ∧ d1_.size ≤ 65515 ∧ h1_.x4 < 32768 := by
  have h_ := decI_ok (b := b) (row_bytes hb)
  rw [hd1_] at h_
  exact h_
 rw [hd1_]
 refine Rn 17 (Qc B89 29) [Qs B89 15] ⟨29, [(2, VL none 0 0), (3, I6 0), (4, .own 4 0), (5, VT d1_), (6, I6 e1_), (14, VB (e1_ != 0))], [(4, ⟨113, [I8 h1_.x0, I8 h1_.x1, I8 h1_.x2, I1 h1_.x3, I1 h1_.x4, I8 h1_.x5, I8 h1_.x6, I8 h1_.x7, I8 h1_.x8, I8 h1_.x9, I8 h1_.y0, I8 h1_.y1, I8 h1_.y2]⟩)]⟩ ?_
 refine X.split 14 rfl (fun h2 => ?_) (fun h2 => ?_)
 ·
  replace h2 : e1_ ≠ 0 := by simpa using h2
  have he_ : e1_ ≠ 0 := h2
  refine X.nilRow 390 5 1 rfl ?_
  refine Rn 10 (.ex .ret) [] ⟨29, [(2, VL none 0 0), (3, I6 e1_)], []⟩ ?_
  refine Dg (.inl rfl) [.slice none 0 0, N6 e1_] [390] rfl (hG1) ?_
  rw [markI_err hd1_ he_]
  exact ⟨none, 0, rfl, rfl⟩
 ·
  replace h2 : e1_ = 0 := by simpa using h2
  have he_ : e1_ = 0 := h2
  obtain ⟨g0_, g1_, g2_, g3_, g4_, g5_, g6_, g7_, g8_, g9_, j0_, j1_, j2_⟩ := hh1_
  have hh1_ : h1_.ok := ⟨g0_, g1_, g2_, g3_, g4_, g5_, g6_, g7_, g8_, g9_, j0_, j1_, j2_⟩
  refine Rn 9 (Qo B89 60 3) [Qs B89 61, Qs B89 31] ⟨29, [(2, VL none 0 0), (3, I6 0), (4, .own 4 0), (5, VT d1_), (18, I8 (Int.tmod h1_.x0 4))], [(4, ⟨113, [I8 h1_.x0, I8 h1_.x1, I8 h1_.x2, I1 h1_.x3, I1 h1_.x4, I8 h1_.x5, I8 h1_.x6, I8 h1_.x7, I8 h1_.x8, I8 h1_.x9, I8 h1_.y0, I8 h1_.y1, I8 h1_.y2]⟩)]⟩ ?_
  refine Kn 18 .u8 (h1_.x0 % 4) rfl (Int.tmod_eq_emod_of_nonneg (by omega)) ?_
  refine Rn 3 (Qc B89 61) [Qs B89 31] ⟨29, [(2, VL none 0 0), (3, I6 0), (4, .own 4 0), (5, VT d1_), (19, VB ((h1_.x0 % 4) == 0))], [(4, ⟨113, [I8 h1_.x0, I8 h1_.x1, I8 h1_.x2, I1 h1_.x3, I1 h1_.x4, I8 h1_.x5, I8 h1_.x6, I8 h1_.x7, I8 h1_.x8, I8 h1_.x9, I8 h1_.y0, I8 h1_.y1, I8 h1_.y2]⟩)]⟩ ?_
  refine X.split 19 rfl (fun h3 => ?_) (fun h3 => ?_)
  ·
   replace h3 : (h1_.x0 % 4) = 0 := by simpa using h3
   have hq1_ : h1_.x0 % 4 = 0 := by omega
   refine X.nilRow 390 5 1 rfl ?_
   refine Rn 9 (.ex .ret) [] ⟨29, [(2, VL none 0 0), (3, I6 7)], []⟩ ?_
   refine Dg (.inl rfl) [.slice none 0 0, N6 7] [390] rfl (hG1) ?_
   rw [markI_kind hd1_ he_ hq1_]
   exact ⟨none, 0, rfl, rfl⟩
  ·
   replace h3 : (h1_.x0 % 4) ≠ 0 := by simpa using h3
   have hq1_ : ¬ h1_.x0 % 4 = 0 := by omega
   refine Rn 7 (Qo B89 62 2) [Qs B89 63] ⟨29, [(2, VL none 0 0), (3, I6 0), (4, .own 4 0), (5, VT d1_), (21, I8 h1_.x0)], [(4, ⟨113, [I8 h1_.x0, I8 h1_.x1, I8 h1_.x2, I1 h1_.x3, I1 h1_.x4, I8 h1_.x5, I8 h1_.x6, I8 h1_.x7, I8 h1_.x8, I8 h1_.x9, I8 h1_.y0, I8 h1_.y1, I8 h1_.y2]⟩)]⟩ ?_
   refine Cg 147 [N8 h1_.x0, N6 3] 0 (RPut_ok h1_.x0 3 _ (by omega) (by omega)) ?_
   rintro v4 G4 rows4 hG4 ⟨rfl, rfl⟩
   replace hb := hb.mono hG4.le
   refine Rn 8 (Qo B89 126 2) [Qs B89 127] ⟨29, [(2, VL none 0 0), (3, I6 0), (24, .v (.agg #[N8 (putT h1_.x0 3), N8 h1_.x1, N8 h1_.x2, N1 h1_.x3, N1 h1_.x4, N8 h1_.x5, N8 h1_.x6, N8 h1_.x7, N8 h1_.x8, N8 h1_.x9, N8 h1_.y0, N8 h1_.y1, N8 h1_.y2])), (25, VT d1_)], []⟩ ?_
   refine Cg 79 [.agg #[N8 (putT h1_.x0 3), N8 h1_.x1, N8 h1_.x2, N1 h1_.x3, N1 h1_.x4, N8 h1_.x5, N8 h1_.x6, N8 h1_.x7, N8 h1_.x8, N8 h1_.x9, N8 h1_.y0, N8 h1_.y1, N8 h1_.y2], .string d1_] 646 (REncI_ok (tosI h1_ (putT h1_.x0 3)) d1_ _ (tosI_ok hh1_ (by unfold putT; omega)) (by simp only [maxLen]; omega)) ?_
   rintro v5 G5 rows5 hG5 ⟨A5, c5, rfl, rfl⟩
   replace hb := hb.mono hG5.le
   refine X.asR (R' := [(646, RR 5 1 A5 ((encI (tosI h1_ (putT h1_.x0 3)) d1_).1.length) c5 (((encI (tosI h1_ (putT h1_.x0 3)) d1_).1).map (Value.int .u8)))]) rfl ?_
   refine Rn 7 (.ex .ret) [] ⟨29, [(2, VL A5 ((encI (tosI h1_ (putT h1_.x0 3)) d1_).1.length) c5), (3, I6 ((encI (tosI h1_ (putT h1_.x0 3)) d1_).2))], []⟩ ?_
   refine Dg (.inl rfl) [.slice A5 ((encI (tosI h1_ (putT h1_.x0 3)) d1_).1.length) c5, N6 ((encI (tosI h1_ (putT h1_.x0 3)) d1_).2)] [646] rfl (((hG1.trans hG4).trans hG5)) ?_
   rw [markI_fine hd1_ he_ hq1_]
   exact ⟨_, _, rfl, rfl⟩
end Go.Proofs.YtjgpdbkkpomhjaaX
