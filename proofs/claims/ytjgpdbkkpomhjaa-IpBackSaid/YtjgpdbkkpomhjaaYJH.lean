/- ip.read. Walked; printed by a small program of this session. Conditions: none. -/
import Derived.Test.YtjgpdbkkpomhjaaProg
import Derived.KernelRfl
import Derived.Test.YtjgpdbkkpomhjaaYJ5
import Derived.Test.YtjgpdbkkpomhjaaYJG
namespace Go.Proofs.YtjgpdbkkpomhjaaX
open Go.RowKit
open Go.Proofs.YtjgpdbkkpomhjaaW.PrintLast
set_option linter.unusedVariables false
set_option linter.unusedSimpArgs false
set_option maxRecDepth 100000
/-- leat/ip.read -/
noncomputable def B136 : Code := bodyOf Try.f136
set_option maxHeartbeats 4000000 in
theorem Read_ok (A : Option Addr) (c : Nat) (ps : List (List Int)) (G : Mem) (hps : rowAt (D.slice (D.int .u8)) G A ps) (hle : ps.length ≤ c) (hmx : c ≤ maxLen) (hn : ps.length ≤ 1000) : CallsG Try.prog 136 [.slice A ps.length c] G (fun _ v rows => ∃ A' c', v = .tuple #[.slice A' (readI [] ps).1.length c', .int .i64 (readI [] ps).2] ∧ rows = [⟨184, 14, .slice A' (readI [] ps).1.length c', (readI [] ps).1.length, (readI [] ps).1.flatMap pkC⟩]) := by
 simp only [maxLen] at hmx
 refine CallsG.enter Try.func136 rfl rfl ?_
 intro w
 refine Rn 20 (Qc B136 58) [.blk 0, Qs B136 15] ⟨90, [(2, VL none 0 0), (3, I6 0), (4, VL none 0 0), (12, VL A ps.length c), (13, I6 (ps.length : Int)), (14, I6 0)], []⟩ ?_
 refine X.nilRow 30 184 14 rfl ?_
 refine Rn 0 (Qc B136 58) [.blk 0, Qs B136 15] ⟨90, [(4, VL none 0 0), (12, VL A ps.length c), (13, I6 (ps.length : Int)), (14, I6 0)], []⟩ ?_
 refine X.loopJ (fun m s R' G' => ∃ (B_ : Option Addr) (c_ n_ : Nat) (l_ : List Pk) (i_ : Nat), s = ⟨90, [(4, VL B_ n_ c_), (12, VL A ps.length c), (13, I6 (ps.length : Int)), (14, I6 (i_ : Int))], []⟩ ∧ R' = [(30, RR 184 14 B_ n_ c_ ((l_).flatMap pkC))] ∧ Ge G w.heap.size G' ∧ (i_ ≤ ps.length ∧ l_.length = n_ ∧ n_ = i_ ∧ readI l_ (ps.drop i_) = readI [] ps) ∧ m = (ps.length - i_)) _ ⟨none, 0, 0, [], 0, rfl, rfl, Ge.refl _ _, ⟨by omega, rfl, rfl, rfl⟩, rfl⟩ ?_
 rintro m1 s1 R1 G1 ⟨B_, c_, n_, l_, i_, rfl, rfl, hG1, hF1, rfl⟩ J1 hJ1
 replace hps := hps.mono hG1.le
 obtain ⟨hi_, hln_, hni_, hr_⟩ := hF1
 refine Rn 6 (Qc B136 466) [Qs B136 467, .loop J1, .blk 0, Qs B136 15] ⟨90, [(4, VL B_ n_ c_), (12, VL A ps.length c), (13, I6 (ps.length : Int)), (14, I6 (i_ : Int)), (15, VB (decide ((i_ : Int) < (ps.length : Int))))], []⟩ ?_
 refine X.split 15 rfl (fun h2 => ?_) (fun h2 => ?_)
 ·
  replace h2 : (i_ : Int) < ((ps.length : Nat) : Int) := of_decide_eq_true h2
  refine Rn 7 (Qo B136 3736 0) [Qs B136 3737, .blk 1, Qs B136 935, .loop J1, .blk 0, Qs B136 15] ⟨90, [(4, VL B_ n_ c_), (12, VL A ps.length c), (13, I6 (ps.length : Int)), (14, I6 (i_ : Int))], []⟩ ?_
  have b3 : (0 : Int) ≤ (i_ : Int) := by omega
  have b4 : (i_ : Int) < ((ps.length : Nat) : Int) := by omega
  refine Ix 121 22 1 A ps.length c .i64 (i_ : Int) (.tmp 12) (.tmp 14) b3 b4 (fun _ _ => rowAt.so hps (by omega)) ?_
  obtain ⟨A5, c5, at5, le5, mx5, hr5⟩ := At.slice [(30, ⟨184, 14, .slice B_ n_ c_, n_, (l_).flatMap pkC⟩)] hps (((i_ : Int)).toNat) (by omega)
  simp only [maxLen] at mx5
  refine Ld 22 A (((i_ : Int)).toNat * 1) (.tmp 16) (.slice A5 ((ps.getD (((i_ : Int)).toNat) []).length) c5) [.slice A5 ((ps.getD (((i_ : Int)).toNat) []).length) c5] at5 ?_
  refine Rn 6 (Qo B136 7474 1) [Qs B136 7475, .blk 1, Qs B136 935, .loop J1, .blk 0, Qs B136 15] ⟨90, [(4, VL B_ n_ c_), (12, VL A ps.length c), (13, I6 (ps.length : Int)), (14, I6 (i_ : Int)), (19, VL A5 ((ps.getD (((i_ : Int)).toNat) []).length) c5)], []⟩ ?_
  refine Cg 80 [.slice A5 ((ps.getD (((i_ : Int)).toNat) []).length) c5] 0 (DecI_ok A5 c5 (ps.getD (((i_ : Int)).toNat) []) _ hr5 le5 mx5) ?_
  rintro v6 G6 rows6 hG6 ⟨rfl, rfl⟩
  replace hps := hps.mono hG6.le
  replace hr5 := hr5.mono hG6.le
  obtain ⟨h6_, d6_, e6_, hd6_⟩ : ∃ h d e, decI (ps.getD (((i_ : Int)).toNat) []) = ((h, d), e) := ⟨_, _, _, rfl⟩
  obtain ⟨hh6_, hz6_, hz26_, hf6_⟩ : h6_.ok ∧ d6_.size ≤ ((ps.getD (((i_ : Int)).toNat) [])).length ∧ d6_.size ≤ 65515 ∧ h6_.x4 < 32768 := by
   have h_ := decI_ok (b := (ps.getD (((i_ : Int)).toNat) [])) (row_bytes hr5)
   rw [hd6_] at h_
   exact h_
  rw [hd6_]
  refine Rn 17 (Qc B136 29901) [Qs B136 14951, .blk 1, Qs B136 935, .loop J1, .blk 0, Qs B136 15] ⟨90, [(4, VL B_ n_ c_), (7, .own 7 0), (8, VT d6_), (9, I6 e6_), (12, VL A ps.length c), (13, I6 (ps.length : Int)), (14, I6 (i_ : Int)), (25, VB (e6_ != 0))], [(7, ⟨113, [I8 h6_.x0, I8 h6_.x1, I8 h6_.x2, I1 h6_.x3, I1 h6_.x4, I8 h6_.x5, I8 h6_.x6, I8 h6_.x7, I8 h6_.x8, I8 h6_.x9, I8 h6_.y0, I8 h6_.y1, I8 h6_.y2]⟩)]⟩ ?_
  refine X.split 25 rfl (fun h7 => ?_) (fun h7 => ?_)
  ·
   replace h7 : e6_ ≠ 0 := by simpa using h7
   have hdd_ : decI (ps.getD i_ []) = ((h6_, d6_), e6_) := hd6_
   have he_ : e6_ ≠ 0 := h7
   refine X.nilRow 391 184 14 rfl ?_
   refine Rn 15 (.ex .ret) [] ⟨90, [(2, VL none 0 0), (3, I6 e6_)], []⟩ ?_
   refine Dg (.inl rfl) [.slice none 0 0, N6 e6_] [391] rfl ((hG1.trans hG6)) ?_
   have hR_ : readI [] ps = ([], e6_) := by rw [← hr_]; exact readI_bad (by omega) (stepI_err hdd_ he_) (by first | exact he_ | decide)
   rw [hR_]
   exact ⟨none, 0, rfl, rfl⟩
  ·
   replace h7 : e6_ = 0 := by simpa using h7
   have hdd_ : decI (ps.getD i_ []) = ((h6_, d6_), e6_) := hd6_
   have he_ : e6_ = 0 := h7
   obtain ⟨g0_, g1_, g2_, g3_, g4_, g5_, g6_, g7_, g8_, g9_, j0_, j1_, j2_⟩ := hh6_
   have hh6_ : h6_.ok := ⟨g0_, g1_, g2_, g3_, g4_, g5_, g6_, g7_, g8_, g9_, j0_, j1_, j2_⟩
   refine Rn 27 (Qc B136 239229) [Qs B136 119615, .blk 1, Qs B136 935, .loop J1, .blk 0, Qs B136 15] ⟨90, [(4, VL B_ n_ c_), (8, VT d6_), (10, .own 10 0), (11, .own 11 0), (12, VL A ps.length c), (13, I6 (ps.length : Int)), (14, I6 (i_ : Int)), (33, VB (decide (((n_ : Nat) : Int) > 0)))], [(10, ⟨184, [I8 h6_.x0, I8 h6_.x1, I8 h6_.x2, I1 h6_.x3, I1 h6_.x4, I8 h6_.x5, I8 h6_.x6, I8 h6_.x7, I8 h6_.x8, I8 h6_.x9, I8 h6_.y0, I8 h6_.y1, I8 h6_.y2, VT d6_]⟩), (11, ⟨184, [I8 h6_.x0, I8 h6_.x1, I8 h6_.x2, I1 h6_.x3, I1 h6_.x4, I8 h6_.x5, I8 h6_.x6, I8 h6_.x7, I8 h6_.x8, I8 h6_.x9, I8 h6_.y0, I8 h6_.y1, I8 h6_.y2, VT d6_]⟩)]⟩ ?_
   obtain ⟨f_, hf_⟩ : ∃ z_, firstI l_ (h6_, d6_) = z_ := ⟨_, rfl⟩
   refine X.joinCG (Qc B136 119615) [.blk 1, Qs B136 935, .loop J1, .blk 0, Qs B136 15] ⟨90, [(4, VL B_ n_ c_), (8, VT d6_), (10, .own 10 0), (11, .own 11 0), (12, VL A ps.length c), (13, I6 (ps.length : Int)), (14, I6 (i_ : Int))], [(10, ⟨184, [I8 h6_.x0, I8 h6_.x1, I8 h6_.x2, I1 h6_.x3, I1 h6_.x4, I8 h6_.x5, I8 h6_.x6, I8 h6_.x7, I8 h6_.x8, I8 h6_.x9, I8 h6_.y0, I8 h6_.y1, I8 h6_.y2, VT d6_]⟩), (11, ⟨184, [I8 f_.1.x0, I8 f_.1.x1, I8 f_.1.x2, I1 f_.1.x3, I1 f_.1.x4, I8 f_.1.x5, I8 f_.1.x6, I8 f_.1.x7, I8 f_.1.x8, I8 f_.1.x9, I8 f_.1.y0, I8 f_.1.y1, I8 f_.1.y2, VT f_.2]⟩)]⟩ ?_ fun hY8 => ?_
   ·
    intro G8 hG8
    replace hps := hps.mono hG8.le
    replace hr5 := hr5.mono hG8.le
    refine Rn 12 (Qo B136 956920 8) [Qs B136 956921, .blk 2, Qs B136 239231, .blk 1, Qs B136 935, .loop J1, .blk 0, Qs B136 15] ⟨90, [(4, VL B_ n_ c_), (8, VT d6_), (10, .own 10 0), (11, .own 11 0), (12, VL A ps.length c), (13, I6 (ps.length : Int)), (14, I6 (i_ : Int)), (45, VB (h6_.x3 != f_.1.x3))], [(10, ⟨184, [I8 h6_.x0, I8 h6_.x1, I8 h6_.x2, I1 h6_.x3, I1 h6_.x4, I8 h6_.x5, I8 h6_.x6, I8 h6_.x7, I8 h6_.x8, I8 h6_.x9, I8 h6_.y0, I8 h6_.y1, I8 h6_.y2, VT d6_]⟩), (11, ⟨184, [I8 f_.1.x0, I8 f_.1.x1, I8 f_.1.x2, I1 f_.1.x3, I1 f_.1.x4, I8 f_.1.x5, I8 f_.1.x6, I8 f_.1.x7, I8 f_.1.x8, I8 f_.1.x9, I8 f_.1.y0, I8 f_.1.y1, I8 f_.1.y2, VT f_.2]⟩)]⟩ ?_
    refine X.split 45 rfl (fun h9 => ?_) (fun h9 => ?_)
    ·
     replace h9 : h6_.x3 ≠ f_.1.x3 := by simpa using h9
     have hsm_ : sameI h6_ f_.1 = false := same1 h9
     refine X.nilRow 391 184 14 rfl ?_
     refine Rn 44 (.ex .ret) [] ⟨90, [(2, VL none 0 0), (3, I6 7)], []⟩ ?_
     refine Dg (.inl rfl) [.slice none 0 0, N6 7] [391] rfl (((hG1.trans hG6).trans hG8)) ?_
     have hR_ : readI [] ps = ([], 7) := by rw [← hr_]; exact readI_bad (by omega) (stepI_kind hdd_ he_ hf_ hsm_) (by first | exact he_ | decide)
     rw [hR_]
     exact ⟨none, 0, rfl, rfl⟩
    ·
     replace h9 : h6_.x3 = f_.1.x3 := by simpa using h9
     have hq1_ := h9
     refine Rn 9 (Qo B136 956920 17) [Qs B136 956921, .blk 2, Qs B136 239231, .blk 1, Qs B136 935, .loop J1, .blk 0, Qs B136 15] ⟨90, [(4, VL B_ n_ c_), (8, VT d6_), (10, .own 10 0), (11, .own 11 0), (12, VL A ps.length c), (13, I6 (ps.length : Int)), (14, I6 (i_ : Int)), (54, VB (h6_.x2 != f_.1.x2))], [(10, ⟨184, [I8 h6_.x0, I8 h6_.x1, I8 h6_.x2, I1 h6_.x3, I1 h6_.x4, I8 h6_.x5, I8 h6_.x6, I8 h6_.x7, I8 h6_.x8, I8 h6_.x9, I8 h6_.y0, I8 h6_.y1, I8 h6_.y2, VT d6_]⟩), (11, ⟨184, [I8 f_.1.x0, I8 f_.1.x1, I8 f_.1.x2, I1 f_.1.x3, I1 f_.1.x4, I8 f_.1.x5, I8 f_.1.x6, I8 f_.1.x7, I8 f_.1.x8, I8 f_.1.x9, I8 f_.1.y0, I8 f_.1.y1, I8 f_.1.y2, VT f_.2]⟩)]⟩ ?_
     refine X.split 54 rfl (fun h10 => ?_) (fun h10 => ?_)
     ·
      replace h10 : h6_.x2 ≠ f_.1.x2 := by simpa using h10
      have hsm_ : sameI h6_ f_.1 = false := same2 h10
      refine X.nilRow 391 184 14 rfl ?_
      refine Rn 35 (.ex .ret) [] ⟨90, [(2, VL none 0 0), (3, I6 7)], []⟩ ?_
      refine Dg (.inl rfl) [.slice none 0 0, N6 7] [391] rfl (((hG1.trans hG6).trans hG8)) ?_
      have hR_ : readI [] ps = ([], 7) := by rw [← hr_]; exact readI_bad (by omega) (stepI_kind hdd_ he_ hf_ hsm_) (by first | exact he_ | decide)
      rw [hR_]
      exact ⟨none, 0, rfl, rfl⟩
     ·
      replace h10 : h6_.x2 = f_.1.x2 := by simpa using h10
      have hq2_ := h10
      refine Rn 6 (Qo B136 956920 23) [Qs B136 956921, .blk 2, Qs B136 239231, .blk 1, Qs B136 935, .loop J1, .blk 0, Qs B136 15] ⟨90, [(4, VL B_ n_ c_), (8, VT d6_), (10, .own 10 0), (11, .own 11 0), (12, VL A ps.length c), (13, I6 (ps.length : Int)), (14, I6 (i_ : Int)), (54, VB false), (57, .v (.agg #[N8 h6_.x5, N8 h6_.x6, N8 h6_.x7, N8 h6_.x8])), (60, .v (.agg #[N8 f_.1.x5, N8 f_.1.x6, N8 f_.1.x7, N8 f_.1.x8]))], [(10, ⟨184, [I8 h6_.x0, I8 h6_.x1, I8 h6_.x2, I1 h6_.x3, I1 h6_.x4, I8 h6_.x5, I8 h6_.x6, I8 h6_.x7, I8 h6_.x8, I8 h6_.x9, I8 h6_.y0, I8 h6_.y1, I8 h6_.y2, VT d6_]⟩), (11, ⟨184, [I8 f_.1.x0, I8 f_.1.x1, I8 f_.1.x2, I1 f_.1.x3, I1 f_.1.x4, I8 f_.1.x5, I8 f_.1.x6, I8 f_.1.x7, I8 f_.1.x8, I8 f_.1.x9, I8 f_.1.y0, I8 f_.1.y1, I8 f_.1.y2, VT f_.2]⟩)]⟩ ?_
      refine X.neV (t := 55) (t' := 55) (x := .tmp 57) (y := .tmp 60) (xs := #[N8 h6_.x5, N8 h6_.x6, N8 h6_.x7, N8 h6_.x8]) (ys := #[N8 f_.1.x5, N8 f_.1.x6, N8 f_.1.x7, N8 f_.1.x8]) (b := (((h6_.x5 : Int) == f_.1.x5) && (((h6_.x6 : Int) == f_.1.x6) && (((h6_.x7 : Int) == f_.1.x7) && (((h6_.x8 : Int) == f_.1.x8) && true))))) (by kernel_rfl) (by kernel_rfl) (by kernel_rfl) (by kernel_rfl) (by kernel_rfl) (by kernel_rfl) ?_
      refine Rn 2 (Qo B136 956920 26) [Qs B136 956921, .blk 2, Qs B136 239231, .blk 1, Qs B136 935, .loop J1, .blk 0, Qs B136 15] ⟨90, [(4, VL B_ n_ c_), (8, VT d6_), (10, .own 10 0), (11, .own 11 0), (12, VL A ps.length c), (13, I6 (ps.length : Int)), (14, I6 (i_ : Int)), (63, VB (!(((h6_.x5 : Int) == f_.1.x5) && (((h6_.x6 : Int) == f_.1.x6) && (((h6_.x7 : Int) == f_.1.x7) && (((h6_.x8 : Int) == f_.1.x8) && true))))))], [(10, ⟨184, [I8 h6_.x0, I8 h6_.x1, I8 h6_.x2, I1 h6_.x3, I1 h6_.x4, I8 h6_.x5, I8 h6_.x6, I8 h6_.x7, I8 h6_.x8, I8 h6_.x9, I8 h6_.y0, I8 h6_.y1, I8 h6_.y2, VT d6_]⟩), (11, ⟨184, [I8 f_.1.x0, I8 f_.1.x1, I8 f_.1.x2, I1 f_.1.x3, I1 f_.1.x4, I8 f_.1.x5, I8 f_.1.x6, I8 f_.1.x7, I8 f_.1.x8, I8 f_.1.x9, I8 f_.1.y0, I8 f_.1.y1, I8 f_.1.y2, VT f_.2]⟩)]⟩ ?_
      refine X.split 63 rfl (fun h11 => ?_) (fun h11 => ?_)
      ·
       replace h11 : (((h6_.x5 : Int) == f_.1.x5) && (((h6_.x6 : Int) == f_.1.x6) && (((h6_.x7 : Int) == f_.1.x7) && (((h6_.x8 : Int) == f_.1.x8) && true)))) = false := by first | (simpa using h11; done) | (have h_ := congrArg (fun b_ => !b_) h11; simpa only [Bool.not_not, Bool.not_true, Bool.not_false] using h_)
       have hsm_ : sameI h6_ f_.1 = false := same3 h11
       refine X.nilRow 391 184 14 rfl ?_
       refine Rn 26 (.ex .ret) [] ⟨90, [(2, VL none 0 0), (3, I6 7)], []⟩ ?_
       refine Dg (.inl rfl) [.slice none 0 0, N6 7] [391] rfl (((hG1.trans hG6).trans hG8)) ?_
       have hR_ : readI [] ps = ([], 7) := by rw [← hr_]; exact readI_bad (by omega) (stepI_kind hdd_ he_ hf_ hsm_) (by first | exact he_ | decide)
       rw [hR_]
       exact ⟨none, 0, rfl, rfl⟩
      ·
       replace h11 : (((h6_.x5 : Int) == f_.1.x5) && (((h6_.x6 : Int) == f_.1.x6) && (((h6_.x7 : Int) == f_.1.x7) && (((h6_.x8 : Int) == f_.1.x8) && true)))) = true := by first | (simpa using h11; done) | (have h_ := congrArg (fun b_ => !b_) h11; simpa only [Bool.not_not, Bool.not_true, Bool.not_false] using h_)
       have hq3_ := h11
       refine Rn 6 (Qo B136 956920 32) [Qs B136 956921, .blk 2, Qs B136 239231, .blk 1, Qs B136 935, .loop J1, .blk 0, Qs B136 15] ⟨90, [(4, VL B_ n_ c_), (8, VT d6_), (10, .own 10 0), (12, VL A ps.length c), (13, I6 (ps.length : Int)), (14, I6 (i_ : Int)), (63, VB false), (66, .v (.agg #[N8 h6_.x9, N8 h6_.y0, N8 h6_.y1, N8 h6_.y2])), (69, .v (.agg #[N8 f_.1.x9, N8 f_.1.y0, N8 f_.1.y1, N8 f_.1.y2]))], [(10, ⟨184, [I8 h6_.x0, I8 h6_.x1, I8 h6_.x2, I1 h6_.x3, I1 h6_.x4, I8 h6_.x5, I8 h6_.x6, I8 h6_.x7, I8 h6_.x8, I8 h6_.x9, I8 h6_.y0, I8 h6_.y1, I8 h6_.y2, VT d6_]⟩)]⟩ ?_
       refine X.neV (t := 55) (t' := 55) (x := .tmp 66) (y := .tmp 69) (xs := #[N8 h6_.x9, N8 h6_.y0, N8 h6_.y1, N8 h6_.y2]) (ys := #[N8 f_.1.x9, N8 f_.1.y0, N8 f_.1.y1, N8 f_.1.y2]) (b := (((h6_.x9 : Int) == f_.1.x9) && (((h6_.y0 : Int) == f_.1.y0) && (((h6_.y1 : Int) == f_.1.y1) && (((h6_.y2 : Int) == f_.1.y2) && true))))) (by kernel_rfl) (by kernel_rfl) (by kernel_rfl) (by kernel_rfl) (by kernel_rfl) (by kernel_rfl) ?_
       refine Rn 4 (Qc B136 956921) [.blk 2, Qs B136 239231, .blk 1, Qs B136 935, .loop J1, .blk 0, Qs B136 15] ⟨90, [(4, VL B_ n_ c_), (8, VT d6_), (10, .own 10 0), (12, VL A ps.length c), (13, I6 (ps.length : Int)), (14, I6 (i_ : Int)), (37, VB (!(((h6_.x9 : Int) == f_.1.x9) && (((h6_.y0 : Int) == f_.1.y0) && (((h6_.y1 : Int) == f_.1.y1) && (((h6_.y2 : Int) == f_.1.y2) && true))))))], [(10, ⟨184, [I8 h6_.x0, I8 h6_.x1, I8 h6_.x2, I1 h6_.x3, I1 h6_.x4, I8 h6_.x5, I8 h6_.x6, I8 h6_.x7, I8 h6_.x8, I8 h6_.x9, I8 h6_.y0, I8 h6_.y1, I8 h6_.y2, VT d6_]⟩)]⟩ ?_
       refine X.split 37 rfl (fun h12 => ?_) (fun h12 => ?_)
       ·
        replace h12 : (((h6_.x9 : Int) == f_.1.x9) && (((h6_.y0 : Int) == f_.1.y0) && (((h6_.y1 : Int) == f_.1.y1) && (((h6_.y2 : Int) == f_.1.y2) && true)))) = false := by first | (simpa using h12; done) | (have h_ := congrArg (fun b_ => !b_) h12; simpa only [Bool.not_not, Bool.not_true, Bool.not_false] using h_)
        have hsm_ : sameI h6_ f_.1 = false := same4 h12
        refine X.nilRow 391 184 14 rfl ?_
        refine Rn 15 (.ex .ret) [] ⟨90, [(2, VL none 0 0), (3, I6 7)], []⟩ ?_
        refine Dg (.inl rfl) [.slice none 0 0, N6 7] [391] rfl (((hG1.trans hG6).trans hG8)) ?_
        have hR_ : readI [] ps = ([], 7) := by rw [← hr_]; exact readI_bad (by omega) (stepI_kind hdd_ he_ hf_ hsm_) (by first | exact he_ | decide)
        rw [hR_]
        exact ⟨none, 0, rfl, rfl⟩
       ·
        replace h12 : (((h6_.x9 : Int) == f_.1.x9) && (((h6_.y0 : Int) == f_.1.y0) && (((h6_.y1 : Int) == f_.1.y1) && (((h6_.y2 : Int) == f_.1.y2) && true)))) = true := by first | (simpa using h12; done) | (have h_ := congrArg (fun b_ => !b_) h12; simpa only [Bool.not_not, Bool.not_true, Bool.not_false] using h_)
        have hsm_ : sameI h6_ f_.1 = true := same5 hq1_ hq2_ hq3_ h12
        refine Rn 9 (Qo B136 3827686 6) [Qs B136 3827687, .blk 2, Qs B136 239231, .blk 1, Qs B136 935, .loop J1, .blk 0, Qs B136 15] ⟨90, [(4, VL B_ n_ c_), (8, VT d6_), (10, .own 10 0), (12, VL A ps.length c), (13, I6 (ps.length : Int)), (14, I6 (i_ : Int)), (78, VB ((band .u16 h6_.x4 8192) != 0))], [(10, ⟨184, [I8 h6_.x0, I8 h6_.x1, I8 h6_.x2, I1 h6_.x3, I1 h6_.x4, I8 h6_.x5, I8 h6_.x6, I8 h6_.x7, I8 h6_.x8, I8 h6_.x9, I8 h6_.y0, I8 h6_.y1, I8 h6_.y2, VT d6_]⟩)]⟩ ?_
        refine X.split 78 rfl (fun h13 => ?_) (fun h13 => ?_)
        ·
         replace h13 : (band .u16 h6_.x4 8192) ≠ 0 := by simpa using h13
         have hmo_ : moreI h6_ = true := by
          have h_ := bit_more (n := h6_.x4) (by omega)
          unfold moreI
          rw [h_] at h13
          simp only [beq_iff_eq, beq_eq_false_iff_ne, ne_eq]
          omega
         refine Rn 3 (Qo B136 3827686 9) [Qs B136 3827687, .blk 2, Qs B136 239231, .blk 1, Qs B136 935, .loop J1, .blk 0, Qs B136 15] ⟨90, [(4, VL B_ n_ c_), (10, .own 10 0), (12, VL A ps.length c), (13, I6 (ps.length : Int)), (14, I6 (i_ : Int)), (78, VB true), (81, I6 (Int.tmod (d6_.size : Int) 8))], [(10, ⟨184, [I8 h6_.x0, I8 h6_.x1, I8 h6_.x2, I1 h6_.x3, I1 h6_.x4, I8 h6_.x5, I8 h6_.x6, I8 h6_.x7, I8 h6_.x8, I8 h6_.x9, I8 h6_.y0, I8 h6_.y1, I8 h6_.y2, VT d6_]⟩)]⟩ ?_
         refine Kn 81 .i64 ((d6_.size : Int) % 8) rfl (Int.tmod_eq_emod_of_nonneg (by omega)) ?_
         refine Rn 5 (Qc B136 3827687) [.blk 2, Qs B136 239231, .blk 1, Qs B136 935, .loop J1, .blk 0, Qs B136 15] ⟨90, [(4, VL B_ n_ c_), (10, .own 10 0), (12, VL A ps.length c), (13, I6 (ps.length : Int)), (14, I6 (i_ : Int)), (72, VB (((d6_.size : Int) % 8) != 0))], [(10, ⟨184, [I8 h6_.x0, I8 h6_.x1, I8 h6_.x2, I1 h6_.x3, I1 h6_.x4, I8 h6_.x5, I8 h6_.x6, I8 h6_.x7, I8 h6_.x8, I8 h6_.x9, I8 h6_.y0, I8 h6_.y1, I8 h6_.y2, VT d6_]⟩)]⟩ ?_
         refine X.split 72 rfl (fun h14 => ?_) (fun h14 => ?_)
         ·
          replace h14 : ((d6_.size : Int) % 8) ≠ 0 := by simpa using h14
          have hmr_ : moreI h6_ = true ∧ d6_.size % 8 ≠ 0 := ⟨hmo_, by omega⟩
          refine X.nilRow 391 184 14 rfl ?_
          refine Rn 15 (.ex .ret) [] ⟨90, [(2, VL none 0 0), (3, I6 5)], []⟩ ?_
          refine Dg (.inl rfl) [.slice none 0 0, N6 5] [391] rfl (((hG1.trans hG6).trans hG8)) ?_
          have hR_ : readI [] ps = ([], 5) := by rw [← hr_]; exact readI_bad (by omega) (stepI_form hdd_ he_ hf_ hsm_ hmr_) (by first | exact he_ | decide)
          rw [hR_]
          exact ⟨none, 0, rfl, rfl⟩
         ·
          replace h14 : ((d6_.size : Int) % 8) = 0 := by simpa using h14
          have hmr_ : ¬ (moreI h6_ = true ∧ d6_.size % 8 ≠ 0) := fun h_ => h_.2 (by omega)
          refine Rn 7 (Qo B136 239231 2) [.blk 1, Qs B136 935, .loop J1, .blk 0, Qs B136 15] ⟨90, [(4, VL B_ n_ c_), (12, VL A ps.length c), (13, I6 (ps.length : Int)), (14, I6 (i_ : Int)), (84, VL B_ n_ c_), (85, .v (.agg #[N8 h6_.x0, N8 h6_.x1, N8 h6_.x2, N1 h6_.x3, N1 h6_.x4, N8 h6_.x5, N8 h6_.x6, N8 h6_.x7, N8 h6_.x8, N8 h6_.x9, N8 h6_.y0, N8 h6_.y1, N8 h6_.y2, .string d6_]))], []⟩ ?_
          refine Lt 86 184 14 1 [N8 h6_.x0, N8 h6_.x1, N8 h6_.x2, N1 h6_.x3, N1 h6_.x4, N8 h6_.x5, N8 h6_.x6, N8 h6_.x7, N8 h6_.x8, N8 h6_.x9, N8 h6_.y0, N8 h6_.y1, N8 h6_.y2, .string d6_] ?_
          intro A15
          refine Rn 0 (Qo B136 239231 3) [.blk 1, Qs B136 935, .loop J1, .blk 0, Qs B136 15] ⟨90, [(4, VL B_ n_ c_), (12, VL A ps.length c), (13, I6 (ps.length : Int)), (14, I6 (i_ : Int)), (84, VL B_ n_ c_), (86, VL A15 1 1)], []⟩ ?_
          refine Ap 30 (RR 184 14 B_ n_ c_ ((l_).flatMap pkC)) 179 32 (.agg #[N8 0, N8 0, N8 0, N1 0, N1 0, N8 0, N8 0, N8 0, N8 0, N8 0, N8 0, N8 0, N8 0, .string ByteArray.empty]) (.tmp 84) (.tmp 86) n_ c_ 1 1 B_ A15 [N8 h6_.x0, N8 h6_.x1, N8 h6_.x2, N1 h6_.x3, N1 h6_.x4, N8 h6_.x5, N8 h6_.x6, N8 h6_.x7, N8 h6_.x8, N8 h6_.x9, N8 h6_.y0, N8 h6_.y1, N8 h6_.y2, .string d6_] (.inl rfl) (by kernel_rfl) (At.of_row (i := 86) (r := (RR 184 14 A15 1 1 [N8 h6_.x0, N8 h6_.x1, N8 h6_.x2, N1 h6_.x3, N1 h6_.x4, N8 h6_.x5, N8 h6_.x6, N8 h6_.x7, N8 h6_.x8, N8 h6_.x9, N8 h6_.y0, N8 h6_.y1, N8 h6_.y2, .string d6_])) rfl rfl) (fun w hw e => absurd (rowSome (i := 86) (q := (RR 184 14 A15 1 1 [N8 h6_.x0, N8 h6_.x1, N8 h6_.x2, N1 h6_.x3, N1 h6_.x4, N8 h6_.x5, N8 h6_.x6, N8 h6_.x7, N8 h6_.x8, N8 h6_.x9, N8 h6_.y0, N8 h6_.y1, N8 h6_.y2, .string d6_])) rfl rfl (Nat.succ_pos _) w hw) (by rw [e]; decide)) (ones (by kernel_rfl)) (by omega) ?_
          intro A16 c16 hc16
          refine X.tellR [30, 86] (R' := [(30, RR 184 14 A16 (n_ + 1) c16 ((l_ ++ [((⟨h6_.x0, h6_.x1, h6_.x2, h6_.x3, h6_.x4, h6_.x5, h6_.x6, h6_.x7, h6_.x8, h6_.x9, h6_.y0, h6_.y1, h6_.y2⟩ : Ih), d6_)]).flatMap pkC)), (86, RR 184 14 A15 1 1 [N8 h6_.x0, N8 h6_.x1, N8 h6_.x2, N1 h6_.x3, N1 h6_.x4, N8 h6_.x5, N8 h6_.x6, N8 h6_.x7, N8 h6_.x8, N8 h6_.x9, N8 h6_.y0, N8 h6_.y1, N8 h6_.y2, .string d6_])]) (congrArg (fun cs_ => (30, (RR 184 14 A16 (n_ + 1) c16 cs_ : Row)) :: [(86, RR 184 14 A15 1 1 [N8 h6_.x0, N8 h6_.x1, N8 h6_.x2, N1 h6_.x3, N1 h6_.x4, N8 h6_.x5, N8 h6_.x6, N8 h6_.x7, N8 h6_.x8, N8 h6_.x9, N8 h6_.y0, N8 h6_.y1, N8 h6_.y2, .string d6_])]) (flat_snoc pkC l_ (((⟨h6_.x0, h6_.x1, h6_.x2, h6_.x3, h6_.x4, h6_.x5, h6_.x6, h6_.x7, h6_.x8, h6_.x9, h6_.y0, h6_.y1, h6_.y2⟩ : Ih), d6_) : Pk))) ?_
          obtain ⟨l16, hl16⟩ : ∃ z_, (l_ ++ [((⟨h6_.x0, h6_.x1, h6_.x2, h6_.x3, h6_.x4, h6_.x5, h6_.x6, h6_.x7, h6_.x8, h6_.x9, h6_.y0, h6_.y1, h6_.y2⟩ : Ih), d6_)]) = z_ := ⟨_, rfl⟩
          rw [hl16]
          have hn16 : l16.length = n_ + 1 := by rw [← hl16, List.length_append, hln_]; rfl
          refine Rn 6 (Qo B136 935 1) [.loop J1, .blk 0, Qs B136 15] ⟨90, [(4, VL A16 (n_ + 1) c16), (12, VL A ps.length c), (13, I6 (ps.length : Int)), (14, I6 (i_ : Int)), (88, I6 (IntKind.i64.wrap ((i_ : Int) + 1)))], []⟩ ?_
          refine Kn 88 .i64 ((i_ : Int) + 1) rfl (wi64 (by omega) (by omega)) ?_
          refine Rn 2 (.ex .normal) [.loop J1, .blk 0, Qs B136 15] ⟨90, [(4, VL A16 (n_ + 1) c16), (12, VL A ps.length c), (13, I6 (ps.length : Int)), (14, I6 ((i_ : Int) + 1))], []⟩ ?_
          refine X.tellR [30] (R' := [(30, RR 184 14 A16 (n_ + 1) c16 (l16.flatMap pkC))]) rfl ?_
          have hst_ : stepI l_ (ps.getD i_ []) = 0 := stepI_fine hdd_ he_ hf_ hsm_ hmr_
          exact X.again (hJ1 _ _ _ _ ⟨A16, c16, (n_ + 1), l16, (i_ + 1), rfl, rfl, ((hG1.trans hG6).trans hG8), ⟨by omega, by assumption, by omega, by rw [← hl16, show ([((⟨h6_.x0, h6_.x1, h6_.x2, h6_.x3, h6_.x4, h6_.x5, h6_.x6, h6_.x7, h6_.x8, h6_.x9, h6_.y0, h6_.y1, h6_.y2⟩ : Ih), d6_)] : List Pk) = [(decI (ps.getD i_ [])).1] by rw [hdd_], ← readI_next (by omega) hst_]; exact hr_⟩, rfl⟩ (by omega))
        ·
         replace h13 : (band .u16 h6_.x4 8192) = 0 := by simpa using h13
         have hmo_ : moreI h6_ = false := by
          have h_ := bit_more (n := h6_.x4) (by omega)
          unfold moreI
          rw [h_] at h13
          simp only [beq_iff_eq, beq_eq_false_iff_ne, ne_eq]
          omega
         have hmr_ : ¬ (moreI h6_ = true ∧ d6_.size % 8 ≠ 0) := fun h_ => by rw [hmo_] at h_; cases h_.1
         refine Rn 15 (Qo B136 239231 2) [.blk 1, Qs B136 935, .loop J1, .blk 0, Qs B136 15] ⟨90, [(4, VL B_ n_ c_), (12, VL A ps.length c), (13, I6 (ps.length : Int)), (14, I6 (i_ : Int)), (84, VL B_ n_ c_), (85, .v (.agg #[N8 h6_.x0, N8 h6_.x1, N8 h6_.x2, N1 h6_.x3, N1 h6_.x4, N8 h6_.x5, N8 h6_.x6, N8 h6_.x7, N8 h6_.x8, N8 h6_.x9, N8 h6_.y0, N8 h6_.y1, N8 h6_.y2, .string d6_]))], []⟩ ?_
         refine Lt 86 184 14 1 [N8 h6_.x0, N8 h6_.x1, N8 h6_.x2, N1 h6_.x3, N1 h6_.x4, N8 h6_.x5, N8 h6_.x6, N8 h6_.x7, N8 h6_.x8, N8 h6_.x9, N8 h6_.y0, N8 h6_.y1, N8 h6_.y2, .string d6_] ?_
         intro A17
         refine Rn 0 (Qo B136 239231 3) [.blk 1, Qs B136 935, .loop J1, .blk 0, Qs B136 15] ⟨90, [(4, VL B_ n_ c_), (12, VL A ps.length c), (13, I6 (ps.length : Int)), (14, I6 (i_ : Int)), (84, VL B_ n_ c_), (86, VL A17 1 1)], []⟩ ?_
         refine Ap 30 (RR 184 14 B_ n_ c_ ((l_).flatMap pkC)) 179 32 (.agg #[N8 0, N8 0, N8 0, N1 0, N1 0, N8 0, N8 0, N8 0, N8 0, N8 0, N8 0, N8 0, N8 0, .string ByteArray.empty]) (.tmp 84) (.tmp 86) n_ c_ 1 1 B_ A17 [N8 h6_.x0, N8 h6_.x1, N8 h6_.x2, N1 h6_.x3, N1 h6_.x4, N8 h6_.x5, N8 h6_.x6, N8 h6_.x7, N8 h6_.x8, N8 h6_.x9, N8 h6_.y0, N8 h6_.y1, N8 h6_.y2, .string d6_] (.inl rfl) (by kernel_rfl) (At.of_row (i := 86) (r := (RR 184 14 A17 1 1 [N8 h6_.x0, N8 h6_.x1, N8 h6_.x2, N1 h6_.x3, N1 h6_.x4, N8 h6_.x5, N8 h6_.x6, N8 h6_.x7, N8 h6_.x8, N8 h6_.x9, N8 h6_.y0, N8 h6_.y1, N8 h6_.y2, .string d6_])) rfl rfl) (fun w hw e => absurd (rowSome (i := 86) (q := (RR 184 14 A17 1 1 [N8 h6_.x0, N8 h6_.x1, N8 h6_.x2, N1 h6_.x3, N1 h6_.x4, N8 h6_.x5, N8 h6_.x6, N8 h6_.x7, N8 h6_.x8, N8 h6_.x9, N8 h6_.y0, N8 h6_.y1, N8 h6_.y2, .string d6_])) rfl rfl (Nat.succ_pos _) w hw) (by rw [e]; decide)) (ones (by kernel_rfl)) (by omega) ?_
         intro A18 c18 hc18
         refine X.tellR [30, 86] (R' := [(30, RR 184 14 A18 (n_ + 1) c18 ((l_ ++ [((⟨h6_.x0, h6_.x1, h6_.x2, h6_.x3, h6_.x4, h6_.x5, h6_.x6, h6_.x7, h6_.x8, h6_.x9, h6_.y0, h6_.y1, h6_.y2⟩ : Ih), d6_)]).flatMap pkC)), (86, RR 184 14 A17 1 1 [N8 h6_.x0, N8 h6_.x1, N8 h6_.x2, N1 h6_.x3, N1 h6_.x4, N8 h6_.x5, N8 h6_.x6, N8 h6_.x7, N8 h6_.x8, N8 h6_.x9, N8 h6_.y0, N8 h6_.y1, N8 h6_.y2, .string d6_])]) (congrArg (fun cs_ => (30, (RR 184 14 A18 (n_ + 1) c18 cs_ : Row)) :: [(86, RR 184 14 A17 1 1 [N8 h6_.x0, N8 h6_.x1, N8 h6_.x2, N1 h6_.x3, N1 h6_.x4, N8 h6_.x5, N8 h6_.x6, N8 h6_.x7, N8 h6_.x8, N8 h6_.x9, N8 h6_.y0, N8 h6_.y1, N8 h6_.y2, .string d6_])]) (flat_snoc pkC l_ (((⟨h6_.x0, h6_.x1, h6_.x2, h6_.x3, h6_.x4, h6_.x5, h6_.x6, h6_.x7, h6_.x8, h6_.x9, h6_.y0, h6_.y1, h6_.y2⟩ : Ih), d6_) : Pk))) ?_
         obtain ⟨l18, hl18⟩ : ∃ z_, (l_ ++ [((⟨h6_.x0, h6_.x1, h6_.x2, h6_.x3, h6_.x4, h6_.x5, h6_.x6, h6_.x7, h6_.x8, h6_.x9, h6_.y0, h6_.y1, h6_.y2⟩ : Ih), d6_)]) = z_ := ⟨_, rfl⟩
         rw [hl18]
         have hn18 : l18.length = n_ + 1 := by rw [← hl18, List.length_append, hln_]; rfl
         refine Rn 6 (Qo B136 935 1) [.loop J1, .blk 0, Qs B136 15] ⟨90, [(4, VL A18 (n_ + 1) c18), (12, VL A ps.length c), (13, I6 (ps.length : Int)), (14, I6 (i_ : Int)), (88, I6 (IntKind.i64.wrap ((i_ : Int) + 1)))], []⟩ ?_
         refine Kn 88 .i64 ((i_ : Int) + 1) rfl (wi64 (by omega) (by omega)) ?_
         refine Rn 2 (.ex .normal) [.loop J1, .blk 0, Qs B136 15] ⟨90, [(4, VL A18 (n_ + 1) c18), (12, VL A ps.length c), (13, I6 (ps.length : Int)), (14, I6 ((i_ : Int) + 1))], []⟩ ?_
         refine X.tellR [30] (R' := [(30, RR 184 14 A18 (n_ + 1) c18 (l18.flatMap pkC))]) rfl ?_
         have hst_ : stepI l_ (ps.getD i_ []) = 0 := stepI_fine hdd_ he_ hf_ hsm_ hmr_
         exact X.again (hJ1 _ _ _ _ ⟨A18, c18, (n_ + 1), l18, (i_ + 1), rfl, rfl, ((hG1.trans hG6).trans hG8), ⟨by omega, by assumption, by omega, by rw [← hl18, show ([((⟨h6_.x0, h6_.x1, h6_.x2, h6_.x3, h6_.x4, h6_.x5, h6_.x6, h6_.x7, h6_.x8, h6_.x9, h6_.y0, h6_.y1, h6_.y2⟩ : Ih), d6_)] : List Pk) = [(decI (ps.getD i_ [])).1] by rw [hdd_], ← readI_next (by omega) hst_]; exact hr_⟩, rfl⟩ (by omega))
   ·
    refine X.split 33 rfl (fun h19 => ?_) (fun h19 => ?_)
    ·
     replace h19 : ((n_ : Nat) : Int) > 0 := of_decide_eq_true h19
     refine Rn 3 (Qo B136 478458 1) [Qs B136 119615, .blk 1, Qs B136 935, .loop J1, .blk 0, Qs B136 15] ⟨90, [(4, VL B_ n_ c_), (8, VT d6_), (10, .own 10 0), (11, .own 11 0), (12, VL A ps.length c), (13, I6 (ps.length : Int)), (14, I6 (i_ : Int)), (34, VL B_ n_ c_)], [(10, ⟨184, [I8 h6_.x0, I8 h6_.x1, I8 h6_.x2, I1 h6_.x3, I1 h6_.x4, I8 h6_.x5, I8 h6_.x6, I8 h6_.x7, I8 h6_.x8, I8 h6_.x9, I8 h6_.y0, I8 h6_.y1, I8 h6_.y2, VT d6_]⟩), (11, ⟨184, [I8 h6_.x0, I8 h6_.x1, I8 h6_.x2, I1 h6_.x3, I1 h6_.x4, I8 h6_.x5, I8 h6_.x6, I8 h6_.x7, I8 h6_.x8, I8 h6_.x9, I8 h6_.y0, I8 h6_.y1, I8 h6_.y2, VT d6_]⟩)]⟩ ?_
     have b20 : (0 : Int) ≤ 0 := by omega
     have b21 : 0 < ((n_ : Nat) : Int) := by omega
     refine Ix 179 184 14 B_ n_ c_ .i64 0 (.tmp 34) (.const (N6 0)) b20 b21 (rowSome (i := 30) (q := (RR 184 14 B_ n_ c_ ((l_).flatMap pkC))) rfl rfl (flat_pos pkC_len (by decide) (by rw [hln_]; omega))) ?_
     have at22 : At G6 [(30, ⟨184, 14, .slice B_ n_ c_, n_, (l_).flatMap pkC⟩)] B_ (0 * 14) [.int .u8 ((l_.getD 0 pk0).1.x0), .int .u8 ((l_.getD 0 pk0).1.x1), .int .u8 ((l_.getD 0 pk0).1.x2), .int .u16 ((l_.getD 0 pk0).1.x3), .int .u16 ((l_.getD 0 pk0).1.x4), .int .u8 ((l_.getD 0 pk0).1.x5), .int .u8 ((l_.getD 0 pk0).1.x6), .int .u8 ((l_.getD 0 pk0).1.x7), .int .u8 ((l_.getD 0 pk0).1.x8), .int .u8 ((l_.getD 0 pk0).1.x9), .int .u8 ((l_.getD 0 pk0).1.y0), .int .u8 ((l_.getD 0 pk0).1.y1), .int .u8 ((l_.getD 0 pk0).1.y2), .string ((l_.getD 0 pk0).2)] := At.rowF pkC pkC_len (i := 30) (r := ⟨184, 14, .slice B_ n_ c_, n_, (l_).flatMap pkC⟩) pk0 rfl rfl rfl (by rw [hln_]; omega)
     refine Rn 0 (Qo B136 478458 2) [Qs B136 119615, .blk 1, Qs B136 935, .loop J1, .blk 0, Qs B136 15] ⟨90, [(4, VL B_ n_ c_), (8, VT d6_), (10, .own 10 0), (11, .own 11 0), (12, VL A ps.length c), (13, I6 (ps.length : Int)), (14, I6 (i_ : Int)), (35, .v (elt B_ (0 * 14)))], [(10, ⟨184, [I8 h6_.x0, I8 h6_.x1, I8 h6_.x2, I1 h6_.x3, I1 h6_.x4, I8 h6_.x5, I8 h6_.x6, I8 h6_.x7, I8 h6_.x8, I8 h6_.x9, I8 h6_.y0, I8 h6_.y1, I8 h6_.y2, VT d6_]⟩), (11, ⟨184, [I8 h6_.x0, I8 h6_.x1, I8 h6_.x2, I1 h6_.x3, I1 h6_.x4, I8 h6_.x5, I8 h6_.x6, I8 h6_.x7, I8 h6_.x8, I8 h6_.x9, I8 h6_.y0, I8 h6_.y1, I8 h6_.y2, VT d6_]⟩)]⟩ ?_
     have at23 : At G6 [(30, ⟨184, 14, .slice B_ n_ c_, n_, (l_).flatMap pkC⟩)] B_ (0 * 14) [.int .u8 ((l_.getD 0 pk0).1.x0), .int .u8 ((l_.getD 0 pk0).1.x1), .int .u8 ((l_.getD 0 pk0).1.x2), .int .u16 ((l_.getD 0 pk0).1.x3), .int .u16 ((l_.getD 0 pk0).1.x4), .int .u8 ((l_.getD 0 pk0).1.x5), .int .u8 ((l_.getD 0 pk0).1.x6), .int .u8 ((l_.getD 0 pk0).1.x7), .int .u8 ((l_.getD 0 pk0).1.x8), .int .u8 ((l_.getD 0 pk0).1.x9), .int .u8 ((l_.getD 0 pk0).1.y0), .int .u8 ((l_.getD 0 pk0).1.y1), .int .u8 ((l_.getD 0 pk0).1.y2), .string ((l_.getD 0 pk0).2)] := At.rowF pkC pkC_len (i := 30) (r := ⟨184, 14, .slice B_ n_ c_, n_, (l_).flatMap pkC⟩) pk0 rfl rfl rfl (by rw [hln_]; omega)
     refine Ld 184 B_ (0 * 14) (.tmp 35) (.agg #[N8 ((l_.getD 0 pk0).1.x0), N8 ((l_.getD 0 pk0).1.x1), N8 ((l_.getD 0 pk0).1.x2), N1 ((l_.getD 0 pk0).1.x3), N1 ((l_.getD 0 pk0).1.x4), N8 ((l_.getD 0 pk0).1.x5), N8 ((l_.getD 0 pk0).1.x6), N8 ((l_.getD 0 pk0).1.x7), N8 ((l_.getD 0 pk0).1.x8), N8 ((l_.getD 0 pk0).1.x9), N8 ((l_.getD 0 pk0).1.y0), N8 ((l_.getD 0 pk0).1.y1), N8 ((l_.getD 0 pk0).1.y2), .string ((l_.getD 0 pk0).2)]) [N8 ((l_.getD 0 pk0).1.x0), N8 ((l_.getD 0 pk0).1.x1), N8 ((l_.getD 0 pk0).1.x2), N1 ((l_.getD 0 pk0).1.x3), N1 ((l_.getD 0 pk0).1.x4), N8 ((l_.getD 0 pk0).1.x5), N8 ((l_.getD 0 pk0).1.x6), N8 ((l_.getD 0 pk0).1.x7), N8 ((l_.getD 0 pk0).1.x8), N8 ((l_.getD 0 pk0).1.x9), N8 ((l_.getD 0 pk0).1.y0), N8 ((l_.getD 0 pk0).1.y1), N8 ((l_.getD 0 pk0).1.y2), .string ((l_.getD 0 pk0).2)] at23 ?_
     refine Rn 3 (Qc B136 119615) [.blk 1, Qs B136 935, .loop J1, .blk 0, Qs B136 15] ⟨90, [(4, VL B_ n_ c_), (8, VT d6_), (10, .own 10 0), (11, .own 11 0), (12, VL A ps.length c), (13, I6 (ps.length : Int)), (14, I6 (i_ : Int))], [(10, ⟨184, [I8 h6_.x0, I8 h6_.x1, I8 h6_.x2, I1 h6_.x3, I1 h6_.x4, I8 h6_.x5, I8 h6_.x6, I8 h6_.x7, I8 h6_.x8, I8 h6_.x9, I8 h6_.y0, I8 h6_.y1, I8 h6_.y2, VT d6_]⟩), (11, ⟨184, [I8 ((l_.getD 0 pk0).1.x0), I8 ((l_.getD 0 pk0).1.x1), I8 ((l_.getD 0 pk0).1.x2), I1 ((l_.getD 0 pk0).1.x3), I1 ((l_.getD 0 pk0).1.x4), I8 ((l_.getD 0 pk0).1.x5), I8 ((l_.getD 0 pk0).1.x6), I8 ((l_.getD 0 pk0).1.x7), I8 ((l_.getD 0 pk0).1.x8), I8 ((l_.getD 0 pk0).1.x9), I8 ((l_.getD 0 pk0).1.y0), I8 ((l_.getD 0 pk0).1.y1), I8 ((l_.getD 0 pk0).1.y2), VT ((l_.getD 0 pk0).2)]⟩)]⟩ ?_
     refine X.castS ⟨90, [(4, VL B_ n_ c_), (8, VT d6_), (10, .own 10 0), (11, .own 11 0), (12, VL A ps.length c), (13, I6 (ps.length : Int)), (14, I6 (i_ : Int))], [(10, ⟨184, [I8 h6_.x0, I8 h6_.x1, I8 h6_.x2, I1 h6_.x3, I1 h6_.x4, I8 h6_.x5, I8 h6_.x6, I8 h6_.x7, I8 h6_.x8, I8 h6_.x9, I8 h6_.y0, I8 h6_.y1, I8 h6_.y2, VT d6_]⟩), (11, ⟨184, [I8 f_.1.x0, I8 f_.1.x1, I8 f_.1.x2, I1 f_.1.x3, I1 f_.1.x4, I8 f_.1.x5, I8 f_.1.x6, I8 f_.1.x7, I8 f_.1.x8, I8 f_.1.x9, I8 f_.1.y0, I8 f_.1.y1, I8 f_.1.y2, VT f_.2]⟩)]⟩ (by have e_ : f_ = l_.getD 0 pk0 := (by rw [← hf_]; unfold firstI; rw [if_pos (by omega)]); subst e_; rfl) ?_
     exact hY8 _ (Ge.refl _ _)
    ·
     replace h19 : ¬ (((n_ : Nat) : Int) > 0) := of_decide_eq_false h19
     refine Rn 3 (Qc B136 119615) [.blk 1, Qs B136 935, .loop J1, .blk 0, Qs B136 15] ⟨90, [(4, VL B_ n_ c_), (8, VT d6_), (10, .own 10 0), (11, .own 11 0), (12, VL A ps.length c), (13, I6 (ps.length : Int)), (14, I6 (i_ : Int))], [(10, ⟨184, [I8 h6_.x0, I8 h6_.x1, I8 h6_.x2, I1 h6_.x3, I1 h6_.x4, I8 h6_.x5, I8 h6_.x6, I8 h6_.x7, I8 h6_.x8, I8 h6_.x9, I8 h6_.y0, I8 h6_.y1, I8 h6_.y2, VT d6_]⟩), (11, ⟨184, [I8 h6_.x0, I8 h6_.x1, I8 h6_.x2, I1 h6_.x3, I1 h6_.x4, I8 h6_.x5, I8 h6_.x6, I8 h6_.x7, I8 h6_.x8, I8 h6_.x9, I8 h6_.y0, I8 h6_.y1, I8 h6_.y2, VT d6_]⟩)]⟩ ?_
     refine X.castS ⟨90, [(4, VL B_ n_ c_), (8, VT d6_), (10, .own 10 0), (11, .own 11 0), (12, VL A ps.length c), (13, I6 (ps.length : Int)), (14, I6 (i_ : Int))], [(10, ⟨184, [I8 h6_.x0, I8 h6_.x1, I8 h6_.x2, I1 h6_.x3, I1 h6_.x4, I8 h6_.x5, I8 h6_.x6, I8 h6_.x7, I8 h6_.x8, I8 h6_.x9, I8 h6_.y0, I8 h6_.y1, I8 h6_.y2, VT d6_]⟩), (11, ⟨184, [I8 f_.1.x0, I8 f_.1.x1, I8 f_.1.x2, I1 f_.1.x3, I1 f_.1.x4, I8 f_.1.x5, I8 f_.1.x6, I8 f_.1.x7, I8 f_.1.x8, I8 f_.1.x9, I8 f_.1.y0, I8 f_.1.y1, I8 f_.1.y2, VT f_.2]⟩)]⟩ (by have e_ : f_ = (h6_, d6_) := (by rw [← hf_]; unfold firstI; rw [if_neg (by omega)]); subst e_; rfl) ?_
     exact hY8 _ (Ge.refl _ _)
 ·
  replace h2 : ¬ ((i_ : Int) < ((ps.length : Nat) : Int)) := of_decide_eq_false h2
  refine Rn 14 (.ex .ret) [] ⟨90, [(2, VL B_ n_ c_), (3, I6 0)], []⟩ ?_
  refine Dg (.inl rfl) [.slice B_ n_ c_, N6 0] [30] rfl (hG1) ?_
  have hR_ : readI [] ps = (l_, 0) := by rw [← hr_]; exact readI_end (by omega)
  rw [hR_]
  subst hln_
  exact ⟨B_, c_, rfl, rfl⟩
end Go.Proofs.YtjgpdbkkpomhjaaX
