/- leatref46.Join. Walked; printed by a small program of this session. Conditions: none. -/
import Derived.Test.YtjgpdbkkpomhjaaProg
import Derived.KernelRfl
import Derived.Test.YtjgpdbkkpomhjaaYJ3
import Derived.Test.YtjgpdbkkpomhjaaYJ6
import Derived.Test.YtjgpdbkkpomhjaaYJK
import Derived.Test.YtjgpdbkkpomhjaaYJJ
namespace Go.Proofs.YtjgpdbkkpomhjaaX
open Go.RowKit
open Go.Proofs.YtjgpdbkkpomhjaaW.PrintLast
set_option linter.unusedVariables false
set_option linter.unusedSimpArgs false
set_option maxRecDepth 100000
theorem bytesL_app (a b : ByteArray) : bytesL (a ++ b) = bytesL a ++ bytesL b := by simp [bytesL, ByteArray.data_append]
theorem hadI_snoc (l : List Pk) (x : Pk) (k : Int) : hadI (l ++ [x]) k = (hadI l k || (x.1.x0 % 4 == k)) := by
 unfold hadI
 rw [List.any_append, List.any_cons, List.any_nil, Bool.or_false]
theorem hadI_perm {l m : List Pk} (h : l.Perm m) (k : Int) : hadI l k = hadI m k := by
 unfold hadI
 rw [Bool.eq_iff_iff, List.any_eq_true, List.any_eq_true]
 exact ⟨fun ⟨x, hx, h1⟩ => ⟨x, h.mem_iff.mp hx, h1⟩, fun ⟨x, hx, h1⟩ => ⟨x, h.mem_iff.mpr hx, h1⟩⟩
/-- leat/leatref46.Join -/
noncomputable def B84 : Code := bodyOf Try.f84
set_option maxHeartbeats 4000000 in
theorem RJoin_ok (A : Option Addr) (c : Nat) (ps : List (List Int)) (G : Mem) (hps : rowAt (D.slice (D.int .u8)) G A ps) (hle : ps.length ≤ c) (hmx : c ≤ maxLen) (hn : ps.length ≤ 20) : CallsG Try.prog 84 [.slice A ps.length c] G (fun _ v rows => ∃ A' c', v = .tuple #[.slice A' (joinI ps).1.length c', .int .i64 (joinI ps).2] ∧ rows = [⟨5, 1, .slice A' (joinI ps).1.length c', (joinI ps).1.length, (joinI ps).1.map (Value.int .u8)⟩]) := by
 simp only [maxLen] at hmx
 refine CallsG.enter Try.func84 rfl rfl ?_
 intro w
 refine Rn 14 (Qc B84 13) [Qs B84 7] ⟨153, [(0, VL A ps.length c), (2, VL none 0 0), (3, I6 0), (17, VB ((ps.length : Int) == 0))], []⟩ ?_
 refine X.split 17 rfl (fun h1 => ?_) (fun h1 => ?_)
 ·
  replace h1 : ((ps.length : Nat) : Int) = 0 := by simpa using h1
  refine X.nilRow 390 5 1 rfl ?_
  refine Rn 9 (.ex .ret) [] ⟨153, [(2, VL none 0 0), (3, I6 10)], []⟩ ?_
  refine Dg (.inl rfl) [.slice none 0 0, N6 10] [390] rfl (Ge.refl _ _) ?_
  have hR_ : readI [] ps = ([], 0) := by rw [List.length_eq_zero_iff.mp (show ps.length = 0 by omega)]; rfl
  rw [joinI_none hR_ rfl]
  exact ⟨none, 0, rfl, rfl⟩
 ·
  replace h1 : ((ps.length : Nat) : Int) ≠ 0 := by simpa using h1
  refine Rn 26 (Qc B84 506) [.blk 0, Qs B84 127] ⟨153, [(0, VL A ps.length c), (2, VL none 0 0), (3, I6 0), (4, VL none 0 0), (5, .own 5 0), (6, VB false), (7, VB false), (8, I6 0)], [(5, ⟨113, [I8 0, I8 0, I8 0, I1 0, I1 0, I8 0, I8 0, I8 0, I8 0, I8 0, I8 0, I8 0, I8 0]⟩)]⟩ ?_
  refine Rn 0 (Qc B84 506) [.blk 0, Qs B84 127] ⟨153, [(0, VL A ps.length c), (4, VL none 0 0), (5, .own 5 0), (6, VB false), (7, VB false), (8, I6 0)], [(5, ⟨113, [I8 0, I8 0, I8 0, I1 0, I1 0, I8 0, I8 0, I8 0, I8 0, I8 0, I8 0, I8 0, I8 0]⟩)]⟩ ?_
  refine X.loopJ (fun m s R' G' => ∃ (X_ : Option Addr) (cx_ : Nat) (s_ l_ : List Pk) (f_ : Ih) (ce_ nt_ : Bool) (i_ : Nat), s = ⟨153, [(0, VL A ps.length c), (4, VL X_ s_.length cx_), (5, .own 5 0), (6, VB ce_), (7, VB nt_), (8, I6 (i_ : Int))], [(5, ⟨113, [I8 f_.x0, I8 f_.x1, I8 f_.x2, I1 f_.x3, I1 f_.x4, I8 f_.x5, I8 f_.x6, I8 f_.x7, I8 f_.x8, I8 f_.x9, I8 f_.y0, I8 f_.y1, I8 f_.y2]⟩)]⟩ ∧ R' = [] ∧ Ge G w.heap.size G' ∧ (i_ ≤ ps.length ∧ l_.length = i_ ∧ readI l_ (ps.drop i_) = readI [] ps ∧ (s_ = sortI plI l_ ∧ (∀ x ∈ l_, okP x) ∧ (0 < i_ → f_ = (l_.getD 0 pk0).1)) ∧ ce_ = hadI l_ 3 ∧ nt_ = hadI l_ 0 ∧ rowAt pkD G' X_ s_ ∧ s_.length ≤ cx_ ∧ cx_ ≤ maxLen) ∧ m = (ps.length - i_)) _ ⟨none, 0, [], [], ih0, false, false, 0, rfl, rfl, Ge.refl _ _, ⟨by omega, rfl, rfl, ⟨rfl, fun x_ h_ => absurd h_ List.not_mem_nil, fun h_ => absurd h_ (Nat.lt_irrefl _)⟩, rfl, rfl, rowAt.nil _ _ _, Nat.zero_le _, Nat.zero_le _⟩, rfl⟩ ?_
  rintro m2 s2 R2 G2 ⟨X_, cx_, s_, l_, f_, ce_, nt_, i_, rfl, rfl, hG2, hF2, rfl⟩ J2 hJ2
  replace hps := hps.mono hG2.le
  obtain ⟨hi_, hli_, hr_, ⟨hs_, hlo_, hff_⟩, hce_, hnt_, hrx_, hlx_, hmx_⟩ := hF2
  have hsl_ : s_.length = i_ := by rw [hs_, sortI_len, hli_]
  have hsok_ : ∀ x ∈ s_, okP x := fun x_ h_ => hlo_ x_ (by rw [hs_] at h_; exact (sortI_perm _).mem_iff.mp h_)
  simp only [maxLen] at hmx_
  refine Rn 9 (Qc B84 4049) [Qs B84 2025, .loop J2, .blk 0, Qs B84 127] ⟨153, [(0, VL A ps.length c), (4, VL X_ s_.length cx_), (5, .own 5 0), (6, VB ce_), (7, VB nt_), (8, I6 (i_ : Int)), (21, VB (decide ((i_ : Int) < (ps.length : Int))))], [(5, ⟨113, [I8 f_.x0, I8 f_.x1, I8 f_.x2, I1 f_.x3, I1 f_.x4, I8 f_.x5, I8 f_.x6, I8 f_.x7, I8 f_.x8, I8 f_.x9, I8 f_.y0, I8 f_.y1, I8 f_.y2]⟩)]⟩ ?_
  refine X.split 21 rfl (fun h3 => ?_) (fun h3 => ?_)
  ·
   replace h3 : (i_ : Int) < ((ps.length : Nat) : Int) := of_decide_eq_true h3
   refine Rn 9 (Qo B84 16200 2) [Qs B84 16201, .blk 1, Qs B84 4051, .loop J2, .blk 0, Qs B84 127] ⟨153, [(0, VL A ps.length c), (4, VL X_ s_.length cx_), (5, .own 5 0), (6, VB ce_), (7, VB nt_), (8, I6 (i_ : Int)), (25, VL A ps.length c), (26, I6 (i_ : Int))], [(5, ⟨113, [I8 f_.x0, I8 f_.x1, I8 f_.x2, I1 f_.x3, I1 f_.x4, I8 f_.x5, I8 f_.x6, I8 f_.x7, I8 f_.x8, I8 f_.x9, I8 f_.y0, I8 f_.y1, I8 f_.y2]⟩)]⟩ ?_
   have b4 : (0 : Int) ≤ (i_ : Int) := by omega
   have b5 : (i_ : Int) < ((ps.length : Nat) : Int) := by omega
   refine Ix 121 22 1 A ps.length c .i64 (i_ : Int) (.tmp 25) (.tmp 26) b4 b5 (fun _ _ => rowAt.so hps (by omega)) ?_
   obtain ⟨A6, c6, at6, le6, mx6, hr6⟩ := At.slice [] hps (((i_ : Int)).toNat) (by omega)
   simp only [maxLen] at mx6
   refine Rn 0 (Qo B84 16200 3) [Qs B84 16201, .blk 1, Qs B84 4051, .loop J2, .blk 0, Qs B84 127] ⟨153, [(0, VL A ps.length c), (4, VL X_ s_.length cx_), (5, .own 5 0), (6, VB ce_), (7, VB nt_), (8, I6 (i_ : Int)), (27, .v (elt A (((i_ : Int)).toNat * 1)))], [(5, ⟨113, [I8 f_.x0, I8 f_.x1, I8 f_.x2, I1 f_.x3, I1 f_.x4, I8 f_.x5, I8 f_.x6, I8 f_.x7, I8 f_.x8, I8 f_.x9, I8 f_.y0, I8 f_.y1, I8 f_.y2]⟩)]⟩ ?_
   refine Ld 22 A (((i_ : Int)).toNat * 1) (.tmp 27) (.slice A6 ((ps.getD (((i_ : Int)).toNat) []).length) c6) [.slice A6 ((ps.getD (((i_ : Int)).toNat) []).length) c6] at6 ?_
   refine Rn 0 (Qo B84 16200 4) [Qs B84 16201, .blk 1, Qs B84 4051, .loop J2, .blk 0, Qs B84 127] ⟨153, [(0, VL A ps.length c), (4, VL X_ s_.length cx_), (5, .own 5 0), (6, VB ce_), (7, VB nt_), (8, I6 (i_ : Int)), (28, VL A6 ((ps.getD (((i_ : Int)).toNat) []).length) c6)], [(5, ⟨113, [I8 f_.x0, I8 f_.x1, I8 f_.x2, I1 f_.x3, I1 f_.x4, I8 f_.x5, I8 f_.x6, I8 f_.x7, I8 f_.x8, I8 f_.x9, I8 f_.y0, I8 f_.y1, I8 f_.y2]⟩)]⟩ ?_
   refine Cg 81 [.slice A6 ((ps.getD (((i_ : Int)).toNat) []).length) c6] 0 (RDecI_ok A6 c6 (ps.getD (((i_ : Int)).toNat) []) _ hr6 le6 mx6) ?_
   rintro v7 G7 rows7 hG7 ⟨rfl, rfl⟩
   replace hps := hps.mono hG7.le
   replace hrx_ := hrx_.mono hG7.le
   replace hr6 := hr6.mono hG7.le
   obtain ⟨h7_, d7_, e7_, hd7_⟩ : ∃ h d e, decI (ps.getD (((i_ : Int)).toNat) []) = ((h, d), e) := ⟨_, _, _, rfl⟩
   obtain ⟨hh7_, hz7_, hz27_, hf7_⟩ : h7_.ok ∧ d7_.size ≤ ((ps.getD (((i_ : Int)).toNat) [])).length ∧ d7_.size ≤ 65515 ∧ h7_.x4 < 32768 := by
    have h_ := decI_ok (b := (ps.getD (((i_ : Int)).toNat) [])) (row_bytes hr6)
    rw [hd7_] at h_
    exact h_
   rw [hd7_]
   refine Rn 17 (Qc B84 64805) [Qs B84 32403, .blk 1, Qs B84 4051, .loop J2, .blk 0, Qs B84 127] ⟨153, [(0, VL A ps.length c), (4, VL X_ s_.length cx_), (5, .own 5 0), (6, VB ce_), (7, VB nt_), (8, I6 (i_ : Int)), (9, .own 9 0), (10, VT d7_), (11, I6 e7_), (34, VB (e7_ != 0))], [(5, ⟨113, [I8 f_.x0, I8 f_.x1, I8 f_.x2, I1 f_.x3, I1 f_.x4, I8 f_.x5, I8 f_.x6, I8 f_.x7, I8 f_.x8, I8 f_.x9, I8 f_.y0, I8 f_.y1, I8 f_.y2]⟩), (9, ⟨113, [I8 h7_.x0, I8 h7_.x1, I8 h7_.x2, I1 h7_.x3, I1 h7_.x4, I8 h7_.x5, I8 h7_.x6, I8 h7_.x7, I8 h7_.x8, I8 h7_.x9, I8 h7_.y0, I8 h7_.y1, I8 h7_.y2]⟩)]⟩ ?_
   refine X.split 34 rfl (fun h8 => ?_) (fun h8 => ?_)
   ·
    replace h8 : e7_ ≠ 0 := by simpa using h8
    have hdd_ : decI (ps.getD i_ []) = ((h7_, d7_), e7_) := hd7_
    have he_ : e7_ ≠ 0 := h8
    refine X.nilRow 390 5 1 rfl ?_
    refine Rn 15 (.ex .ret) [] ⟨153, [(2, VL none 0 0), (3, I6 e7_)], []⟩ ?_
    refine Dg (.inl rfl) [.slice none 0 0, N6 e7_] [390] rfl ((hG2.trans hG7)) ?_
    have hR_ : readI [] ps = ([], e7_) := by rw [← hr_]; exact readI_bad (by omega) (stepI_err hdd_ he_) (by first | exact he_ | decide)
    rw [joinI_err hR_ (by first | exact he_ | decide)]
    exact ⟨none, 0, rfl, rfl⟩
   ·
    replace h8 : e7_ = 0 := by simpa using h8
    have hdd_ : decI (ps.getD i_ []) = ((h7_, d7_), e7_) := hd7_
    have he_ : e7_ = 0 := h8
    have hxo_ : okP (h7_, d7_) := ⟨hh7_, hz27_, hf7_⟩
    obtain ⟨g0_, g1_, g2_, g3_, g4_, g5_, g6_, g7_, g8_, g9_, j0_, j1_, j2_⟩ := hh7_
    have hh7_ : h7_.ok := ⟨g0_, g1_, g2_, g3_, g4_, g5_, g6_, g7_, g8_, g9_, j0_, j1_, j2_⟩
    refine Rn 10 (Qc B84 129613) [Qs B84 64807, .blk 1, Qs B84 4051, .loop J2, .blk 0, Qs B84 127] ⟨153, [(0, VL A ps.length c), (4, VL X_ s_.length cx_), (5, .own 5 0), (6, VB ce_), (7, VB nt_), (8, I6 (i_ : Int)), (9, .own 9 0), (10, VT d7_), (37, VB ((i_ : Int) == 0))], [(5, ⟨113, [I8 f_.x0, I8 f_.x1, I8 f_.x2, I1 f_.x3, I1 f_.x4, I8 f_.x5, I8 f_.x6, I8 f_.x7, I8 f_.x8, I8 f_.x9, I8 f_.y0, I8 f_.y1, I8 f_.y2]⟩), (9, ⟨113, [I8 h7_.x0, I8 h7_.x1, I8 h7_.x2, I1 h7_.x3, I1 h7_.x4, I8 h7_.x5, I8 h7_.x6, I8 h7_.x7, I8 h7_.x8, I8 h7_.x9, I8 h7_.y0, I8 h7_.y1, I8 h7_.y2]⟩)]⟩ ?_
    obtain ⟨f2_, hf2_⟩ : ∃ z_, (firstI l_ (h7_, d7_)).1 = z_ := ⟨_, rfl⟩
    refine X.joinCG (Qc B84 64807) [.blk 1, Qs B84 4051, .loop J2, .blk 0, Qs B84 127] ⟨153, [(0, VL A ps.length c), (4, VL X_ s_.length cx_), (5, .own 5 0), (6, VB ce_), (7, VB nt_), (8, I6 (i_ : Int)), (9, .own 9 0), (10, VT d7_)], [(5, ⟨113, [I8 f2_.x0, I8 f2_.x1, I8 f2_.x2, I1 f2_.x3, I1 f2_.x4, I8 f2_.x5, I8 f2_.x6, I8 f2_.x7, I8 f2_.x8, I8 f2_.x9, I8 f2_.y0, I8 f2_.y1, I8 f2_.y2]⟩), (9, ⟨113, [I8 h7_.x0, I8 h7_.x1, I8 h7_.x2, I1 h7_.x3, I1 h7_.x4, I8 h7_.x5, I8 h7_.x6, I8 h7_.x7, I8 h7_.x8, I8 h7_.x9, I8 h7_.y0, I8 h7_.y1, I8 h7_.y2]⟩)]⟩ ?_ fun hY9 => ?_
    ·
     intro G9 hG9
     replace hps := hps.mono hG9.le
     replace hrx_ := hrx_.mono hG9.le
     replace hr6 := hr6.mono hG9.le
     refine Rn 9 (Qo B84 259228 6) [Qs B84 259229, Qs B84 129615, .blk 1, Qs B84 4051, .loop J2, .blk 0, Qs B84 127] ⟨153, [(0, VL A ps.length c), (4, VL X_ s_.length cx_), (5, .own 5 0), (6, VB ce_), (7, VB nt_), (8, I6 (i_ : Int)), (9, .own 9 0), (10, VT d7_), (44, VB (h7_.x3 != f2_.x3))], [(5, ⟨113, [I8 f2_.x0, I8 f2_.x1, I8 f2_.x2, I1 f2_.x3, I1 f2_.x4, I8 f2_.x5, I8 f2_.x6, I8 f2_.x7, I8 f2_.x8, I8 f2_.x9, I8 f2_.y0, I8 f2_.y1, I8 f2_.y2]⟩), (9, ⟨113, [I8 h7_.x0, I8 h7_.x1, I8 h7_.x2, I1 h7_.x3, I1 h7_.x4, I8 h7_.x5, I8 h7_.x6, I8 h7_.x7, I8 h7_.x8, I8 h7_.x9, I8 h7_.y0, I8 h7_.y1, I8 h7_.y2]⟩)]⟩ ?_
     refine X.split 44 rfl (fun h10 => ?_) (fun h10 => ?_)
     ·
      replace h10 : h7_.x3 ≠ f2_.x3 := by simpa using h10
      have hsm_ : sameI h7_ (firstI l_ (h7_, d7_)).1 = false := by rw [hf2_]; exact same1 h10
      refine X.nilRow 390 5 1 rfl ?_
      refine Rn 36 (.ex .ret) [] ⟨153, [(2, VL none 0 0), (3, I6 7)], []⟩ ?_
      refine Dg (.inl rfl) [.slice none 0 0, N6 7] [390] rfl (((hG2.trans hG7).trans hG9)) ?_
      have hR_ : readI [] ps = ([], 7) := by rw [← hr_]; exact readI_bad (by omega) (stepI_kind hdd_ he_ rfl hsm_) (by first | exact he_ | decide)
      rw [joinI_err hR_ (by first | exact he_ | decide)]
      exact ⟨none, 0, rfl, rfl⟩
     ·
      replace h10 : h7_.x3 = f2_.x3 := by simpa using h10
      have hq1_ := h10
      refine Rn 7 (Qo B84 259228 13) [Qs B84 259229, Qs B84 129615, .blk 1, Qs B84 4051, .loop J2, .blk 0, Qs B84 127] ⟨153, [(0, VL A ps.length c), (4, VL X_ s_.length cx_), (5, .own 5 0), (6, VB ce_), (7, VB nt_), (8, I6 (i_ : Int)), (9, .own 9 0), (10, VT d7_), (51, VB (h7_.x2 != f2_.x2))], [(5, ⟨113, [I8 f2_.x0, I8 f2_.x1, I8 f2_.x2, I1 f2_.x3, I1 f2_.x4, I8 f2_.x5, I8 f2_.x6, I8 f2_.x7, I8 f2_.x8, I8 f2_.x9, I8 f2_.y0, I8 f2_.y1, I8 f2_.y2]⟩), (9, ⟨113, [I8 h7_.x0, I8 h7_.x1, I8 h7_.x2, I1 h7_.x3, I1 h7_.x4, I8 h7_.x5, I8 h7_.x6, I8 h7_.x7, I8 h7_.x8, I8 h7_.x9, I8 h7_.y0, I8 h7_.y1, I8 h7_.y2]⟩)]⟩ ?_
      refine X.split 51 rfl (fun h11 => ?_) (fun h11 => ?_)
      ·
       replace h11 : h7_.x2 ≠ f2_.x2 := by simpa using h11
       have hsm_ : sameI h7_ (firstI l_ (h7_, d7_)).1 = false := by rw [hf2_]; exact same2 h11
       refine X.nilRow 390 5 1 rfl ?_
       refine Rn 29 (.ex .ret) [] ⟨153, [(2, VL none 0 0), (3, I6 7)], []⟩ ?_
       refine Dg (.inl rfl) [.slice none 0 0, N6 7] [390] rfl (((hG2.trans hG7).trans hG9)) ?_
       have hR_ : readI [] ps = ([], 7) := by rw [← hr_]; exact readI_bad (by omega) (stepI_kind hdd_ he_ rfl hsm_) (by first | exact he_ | decide)
       rw [joinI_err hR_ (by first | exact he_ | decide)]
       exact ⟨none, 0, rfl, rfl⟩
      ·
       replace h11 : h7_.x2 = f2_.x2 := by simpa using h11
       have hq2_ := h11
       refine Rn 4 (Qo B84 259228 17) [Qs B84 259229, Qs B84 129615, .blk 1, Qs B84 4051, .loop J2, .blk 0, Qs B84 127] ⟨153, [(0, VL A ps.length c), (4, VL X_ s_.length cx_), (5, .own 5 0), (6, VB ce_), (7, VB nt_), (8, I6 (i_ : Int)), (9, .own 9 0), (10, VT d7_), (51, VB false), (53, .v (.agg #[N8 h7_.x5, N8 h7_.x6, N8 h7_.x7, N8 h7_.x8])), (55, .v (.agg #[N8 f2_.x5, N8 f2_.x6, N8 f2_.x7, N8 f2_.x8]))], [(5, ⟨113, [I8 f2_.x0, I8 f2_.x1, I8 f2_.x2, I1 f2_.x3, I1 f2_.x4, I8 f2_.x5, I8 f2_.x6, I8 f2_.x7, I8 f2_.x8, I8 f2_.x9, I8 f2_.y0, I8 f2_.y1, I8 f2_.y2]⟩), (9, ⟨113, [I8 h7_.x0, I8 h7_.x1, I8 h7_.x2, I1 h7_.x3, I1 h7_.x4, I8 h7_.x5, I8 h7_.x6, I8 h7_.x7, I8 h7_.x8, I8 h7_.x9, I8 h7_.y0, I8 h7_.y1, I8 h7_.y2]⟩)]⟩ ?_
       refine X.neV (t := 55) (t' := 55) (x := .tmp 53) (y := .tmp 55) (xs := #[N8 h7_.x5, N8 h7_.x6, N8 h7_.x7, N8 h7_.x8]) (ys := #[N8 f2_.x5, N8 f2_.x6, N8 f2_.x7, N8 f2_.x8]) (b := (((h7_.x5 : Int) == f2_.x5) && (((h7_.x6 : Int) == f2_.x6) && (((h7_.x7 : Int) == f2_.x7) && (((h7_.x8 : Int) == f2_.x8) && true))))) (by kernel_rfl) (by kernel_rfl) (by kernel_rfl) (by kernel_rfl) (by kernel_rfl) (by kernel_rfl) ?_
       refine Rn 2 (Qo B84 259228 20) [Qs B84 259229, Qs B84 129615, .blk 1, Qs B84 4051, .loop J2, .blk 0, Qs B84 127] ⟨153, [(0, VL A ps.length c), (4, VL X_ s_.length cx_), (5, .own 5 0), (6, VB ce_), (7, VB nt_), (8, I6 (i_ : Int)), (9, .own 9 0), (10, VT d7_), (58, VB (!(((h7_.x5 : Int) == f2_.x5) && (((h7_.x6 : Int) == f2_.x6) && (((h7_.x7 : Int) == f2_.x7) && (((h7_.x8 : Int) == f2_.x8) && true))))))], [(5, ⟨113, [I8 f2_.x0, I8 f2_.x1, I8 f2_.x2, I1 f2_.x3, I1 f2_.x4, I8 f2_.x5, I8 f2_.x6, I8 f2_.x7, I8 f2_.x8, I8 f2_.x9, I8 f2_.y0, I8 f2_.y1, I8 f2_.y2]⟩), (9, ⟨113, [I8 h7_.x0, I8 h7_.x1, I8 h7_.x2, I1 h7_.x3, I1 h7_.x4, I8 h7_.x5, I8 h7_.x6, I8 h7_.x7, I8 h7_.x8, I8 h7_.x9, I8 h7_.y0, I8 h7_.y1, I8 h7_.y2]⟩)]⟩ ?_
       refine X.split 58 rfl (fun h12 => ?_) (fun h12 => ?_)
       ·
        replace h12 : (((h7_.x5 : Int) == f2_.x5) && (((h7_.x6 : Int) == f2_.x6) && (((h7_.x7 : Int) == f2_.x7) && (((h7_.x8 : Int) == f2_.x8) && true)))) = false := by first | (simpa using h12; done) | (have h_ := congrArg (fun b_ => !b_) h12; simpa only [Bool.not_not, Bool.not_true, Bool.not_false] using h_)
        have hsm_ : sameI h7_ (firstI l_ (h7_, d7_)).1 = false := by rw [hf2_]; exact same3 h12
        refine X.nilRow 390 5 1 rfl ?_
        refine Rn 22 (.ex .ret) [] ⟨153, [(2, VL none 0 0), (3, I6 7)], []⟩ ?_
        refine Dg (.inl rfl) [.slice none 0 0, N6 7] [390] rfl (((hG2.trans hG7).trans hG9)) ?_
        have hR_ : readI [] ps = ([], 7) := by rw [← hr_]; exact readI_bad (by omega) (stepI_kind hdd_ he_ rfl hsm_) (by first | exact he_ | decide)
        rw [joinI_err hR_ (by first | exact he_ | decide)]
        exact ⟨none, 0, rfl, rfl⟩
       ·
        replace h12 : (((h7_.x5 : Int) == f2_.x5) && (((h7_.x6 : Int) == f2_.x6) && (((h7_.x7 : Int) == f2_.x7) && (((h7_.x8 : Int) == f2_.x8) && true)))) = true := by first | (simpa using h12; done) | (have h_ := congrArg (fun b_ => !b_) h12; simpa only [Bool.not_not, Bool.not_true, Bool.not_false] using h_)
        have hq3_ := h12
        refine Rn 4 (Qo B84 259228 24) [Qs B84 259229, Qs B84 129615, .blk 1, Qs B84 4051, .loop J2, .blk 0, Qs B84 127] ⟨153, [(0, VL A ps.length c), (4, VL X_ s_.length cx_), (5, .own 5 0), (6, VB ce_), (7, VB nt_), (8, I6 (i_ : Int)), (9, .own 9 0), (10, VT d7_), (58, VB false), (60, .v (.agg #[N8 h7_.x9, N8 h7_.y0, N8 h7_.y1, N8 h7_.y2])), (62, .v (.agg #[N8 f2_.x9, N8 f2_.y0, N8 f2_.y1, N8 f2_.y2]))], [(5, ⟨113, [I8 f2_.x0, I8 f2_.x1, I8 f2_.x2, I1 f2_.x3, I1 f2_.x4, I8 f2_.x5, I8 f2_.x6, I8 f2_.x7, I8 f2_.x8, I8 f2_.x9, I8 f2_.y0, I8 f2_.y1, I8 f2_.y2]⟩), (9, ⟨113, [I8 h7_.x0, I8 h7_.x1, I8 h7_.x2, I1 h7_.x3, I1 h7_.x4, I8 h7_.x5, I8 h7_.x6, I8 h7_.x7, I8 h7_.x8, I8 h7_.x9, I8 h7_.y0, I8 h7_.y1, I8 h7_.y2]⟩)]⟩ ?_
        refine X.neV (t := 55) (t' := 55) (x := .tmp 60) (y := .tmp 62) (xs := #[N8 h7_.x9, N8 h7_.y0, N8 h7_.y1, N8 h7_.y2]) (ys := #[N8 f2_.x9, N8 f2_.y0, N8 f2_.y1, N8 f2_.y2]) (b := (((h7_.x9 : Int) == f2_.x9) && (((h7_.y0 : Int) == f2_.y0) && (((h7_.y1 : Int) == f2_.y1) && (((h7_.y2 : Int) == f2_.y2) && true))))) (by kernel_rfl) (by kernel_rfl) (by kernel_rfl) (by kernel_rfl) (by kernel_rfl) (by kernel_rfl) ?_
        refine Rn 3 (Qc B84 259229) [Qs B84 129615, .blk 1, Qs B84 4051, .loop J2, .blk 0, Qs B84 127] ⟨153, [(0, VL A ps.length c), (4, VL X_ s_.length cx_), (5, .own 5 0), (6, VB ce_), (7, VB nt_), (8, I6 (i_ : Int)), (9, .own 9 0), (10, VT d7_), (64, VB (!(((h7_.x9 : Int) == f2_.x9) && (((h7_.y0 : Int) == f2_.y0) && (((h7_.y1 : Int) == f2_.y1) && (((h7_.y2 : Int) == f2_.y2) && true))))))], [(5, ⟨113, [I8 f2_.x0, I8 f2_.x1, I8 f2_.x2, I1 f2_.x3, I1 f2_.x4, I8 f2_.x5, I8 f2_.x6, I8 f2_.x7, I8 f2_.x8, I8 f2_.x9, I8 f2_.y0, I8 f2_.y1, I8 f2_.y2]⟩), (9, ⟨113, [I8 h7_.x0, I8 h7_.x1, I8 h7_.x2, I1 h7_.x3, I1 h7_.x4, I8 h7_.x5, I8 h7_.x6, I8 h7_.x7, I8 h7_.x8, I8 h7_.x9, I8 h7_.y0, I8 h7_.y1, I8 h7_.y2]⟩)]⟩ ?_
        refine X.split 64 rfl (fun h13 => ?_) (fun h13 => ?_)
        ·
         replace h13 : (((h7_.x9 : Int) == f2_.x9) && (((h7_.y0 : Int) == f2_.y0) && (((h7_.y1 : Int) == f2_.y1) && (((h7_.y2 : Int) == f2_.y2) && true)))) = false := by first | (simpa using h13; done) | (have h_ := congrArg (fun b_ => !b_) h13; simpa only [Bool.not_not, Bool.not_true, Bool.not_false] using h_)
         have hsm_ : sameI h7_ (firstI l_ (h7_, d7_)).1 = false := by rw [hf2_]; exact same4 h13
         refine X.nilRow 390 5 1 rfl ?_
         refine Rn 14 (.ex .ret) [] ⟨153, [(2, VL none 0 0), (3, I6 7)], []⟩ ?_
         refine Dg (.inl rfl) [.slice none 0 0, N6 7] [390] rfl (((hG2.trans hG7).trans hG9)) ?_
         have hR_ : readI [] ps = ([], 7) := by rw [← hr_]; exact readI_bad (by omega) (stepI_kind hdd_ he_ rfl hsm_) (by first | exact he_ | decide)
         rw [joinI_err hR_ (by first | exact he_ | decide)]
         exact ⟨none, 0, rfl, rfl⟩
        ·
         replace h13 : (((h7_.x9 : Int) == f2_.x9) && (((h7_.y0 : Int) == f2_.y0) && (((h7_.y1 : Int) == f2_.y1) && (((h7_.y2 : Int) == f2_.y2) && true)))) = true := by first | (simpa using h13; done) | (have h_ := congrArg (fun b_ => !b_) h13; simpa only [Bool.not_not, Bool.not_true, Bool.not_false] using h_)
         have hsm_ : sameI h7_ (firstI l_ (h7_, d7_)).1 = true := by rw [hf2_]; exact same5 hq1_ hq2_ hq3_ h13
         refine Rn 7 (Qo B84 518460 1) [Qs B84 518461, Qs B84 259231, .blk 1, Qs B84 4051, .loop J2, .blk 0, Qs B84 127] ⟨153, [(0, VL A ps.length c), (4, VL X_ s_.length cx_), (5, .own 5 0), (6, VB ce_), (7, VB nt_), (8, I6 (i_ : Int)), (9, .own 9 0), (10, VT d7_), (65, .v (.agg #[N8 h7_.x0, N8 h7_.x1, N8 h7_.x2, N1 h7_.x3, N1 h7_.x4, N8 h7_.x5, N8 h7_.x6, N8 h7_.x7, N8 h7_.x8, N8 h7_.x9, N8 h7_.y0, N8 h7_.y1, N8 h7_.y2]))], [(5, ⟨113, [I8 f2_.x0, I8 f2_.x1, I8 f2_.x2, I1 f2_.x3, I1 f2_.x4, I8 f2_.x5, I8 f2_.x6, I8 f2_.x7, I8 f2_.x8, I8 f2_.x9, I8 f2_.y0, I8 f2_.y1, I8 f2_.y2]⟩), (9, ⟨113, [I8 h7_.x0, I8 h7_.x1, I8 h7_.x2, I1 h7_.x3, I1 h7_.x4, I8 h7_.x5, I8 h7_.x6, I8 h7_.x7, I8 h7_.x8, I8 h7_.x9, I8 h7_.y0, I8 h7_.y1, I8 h7_.y2]⟩)]⟩ ?_
         refine Cg 144 [.agg #[N8 h7_.x0, N8 h7_.x1, N8 h7_.x2, N1 h7_.x3, N1 h7_.x4, N8 h7_.x5, N8 h7_.x6, N8 h7_.x7, N8 h7_.x8, N8 h7_.x9, N8 h7_.y0, N8 h7_.y1, N8 h7_.y2]] 0 (MF_ok h7_ _ hh7_) ?_
         rintro v14 G14 rows14 hG14 ⟨rfl, rfl⟩
         replace hps := hps.mono hG14.le
         replace hrx_ := hrx_.mono hG14.le
         replace hr6 := hr6.mono hG14.le
         refine Rn 1 (Qo B84 518460 3) [Qs B84 518461, Qs B84 259231, .blk 1, Qs B84 4051, .loop J2, .blk 0, Qs B84 127] ⟨153, [(0, VL A ps.length c), (4, VL X_ s_.length cx_), (5, .own 5 0), (6, VB ce_), (7, VB nt_), (8, I6 (i_ : Int)), (9, .own 9 0), (10, VT d7_), (67, VB (h7_.x4 / 8192 % 2 == 1))], [(5, ⟨113, [I8 f2_.x0, I8 f2_.x1, I8 f2_.x2, I1 f2_.x3, I1 f2_.x4, I8 f2_.x5, I8 f2_.x6, I8 f2_.x7, I8 f2_.x8, I8 f2_.x9, I8 f2_.y0, I8 f2_.y1, I8 f2_.y2]⟩), (9, ⟨113, [I8 h7_.x0, I8 h7_.x1, I8 h7_.x2, I1 h7_.x3, I1 h7_.x4, I8 h7_.x5, I8 h7_.x6, I8 h7_.x7, I8 h7_.x8, I8 h7_.x9, I8 h7_.y0, I8 h7_.y1, I8 h7_.y2]⟩)]⟩ ?_
         refine X.split 67 rfl (fun h15 => ?_) (fun h15 => ?_)
         ·
          replace h15 : h7_.x4 / 8192 % 2 = 1 := by simpa using h15
          have hmo_ : moreI h7_ = true := by unfold moreI; rw [h15]; rfl
          refine Rn 3 (Qo B84 518460 6) [Qs B84 518461, Qs B84 259231, .blk 1, Qs B84 4051, .loop J2, .blk 0, Qs B84 127] ⟨153, [(0, VL A ps.length c), (4, VL X_ s_.length cx_), (5, .own 5 0), (6, VB ce_), (7, VB nt_), (8, I6 (i_ : Int)), (9, .own 9 0), (10, VT d7_), (67, VB true), (70, I6 (Int.tmod (d7_.size : Int) 8))], [(5, ⟨113, [I8 f2_.x0, I8 f2_.x1, I8 f2_.x2, I1 f2_.x3, I1 f2_.x4, I8 f2_.x5, I8 f2_.x6, I8 f2_.x7, I8 f2_.x8, I8 f2_.x9, I8 f2_.y0, I8 f2_.y1, I8 f2_.y2]⟩), (9, ⟨113, [I8 h7_.x0, I8 h7_.x1, I8 h7_.x2, I1 h7_.x3, I1 h7_.x4, I8 h7_.x5, I8 h7_.x6, I8 h7_.x7, I8 h7_.x8, I8 h7_.x9, I8 h7_.y0, I8 h7_.y1, I8 h7_.y2]⟩)]⟩ ?_
          refine Kn 70 .i64 ((d7_.size : Int) % 8) rfl (Int.tmod_eq_emod_of_nonneg (by omega)) ?_
          refine Rn 4 (Qc B84 518461) [Qs B84 259231, .blk 1, Qs B84 4051, .loop J2, .blk 0, Qs B84 127] ⟨153, [(0, VL A ps.length c), (4, VL X_ s_.length cx_), (5, .own 5 0), (6, VB ce_), (7, VB nt_), (8, I6 (i_ : Int)), (9, .own 9 0), (10, VT d7_), (72, VB (((d7_.size : Int) % 8) != 0))], [(5, ⟨113, [I8 f2_.x0, I8 f2_.x1, I8 f2_.x2, I1 f2_.x3, I1 f2_.x4, I8 f2_.x5, I8 f2_.x6, I8 f2_.x7, I8 f2_.x8, I8 f2_.x9, I8 f2_.y0, I8 f2_.y1, I8 f2_.y2]⟩), (9, ⟨113, [I8 h7_.x0, I8 h7_.x1, I8 h7_.x2, I1 h7_.x3, I1 h7_.x4, I8 h7_.x5, I8 h7_.x6, I8 h7_.x7, I8 h7_.x8, I8 h7_.x9, I8 h7_.y0, I8 h7_.y1, I8 h7_.y2]⟩)]⟩ ?_
          refine X.split 72 rfl (fun h16 => ?_) (fun h16 => ?_)
          ·
           replace h16 : ((d7_.size : Int) % 8) ≠ 0 := by simpa using h16
           have hmr_ : moreI h7_ = true ∧ d7_.size % 8 ≠ 0 := ⟨hmo_, by omega⟩
           refine X.nilRow 390 5 1 rfl ?_
           refine Rn 14 (.ex .ret) [] ⟨153, [(2, VL none 0 0), (3, I6 5)], []⟩ ?_
           refine Dg (.inl rfl) [.slice none 0 0, N6 5] [390] rfl ((((hG2.trans hG7).trans hG9).trans hG14)) ?_
           have hR_ : readI [] ps = ([], 5) := by rw [← hr_]; exact readI_bad (by omega) (stepI_form hdd_ he_ rfl hsm_ hmr_) (by first | exact he_ | decide)
           rw [joinI_err hR_ (by first | exact he_ | decide)]
           exact ⟨none, 0, rfl, rfl⟩
          ·
           replace h16 : ((d7_.size : Int) % 8) = 0 := by simpa using h16
           have hmr_ : ¬ (moreI h7_ = true ∧ d7_.size % 8 ≠ 0) := fun h_ => h_.2 (by omega)
           refine Rn 7 (Qo B84 518462 2) [Qs B84 518463, .blk 1, Qs B84 4051, .loop J2, .blk 0, Qs B84 127] ⟨153, [(0, VL A ps.length c), (4, VL X_ s_.length cx_), (5, .own 5 0), (6, VB ce_), (7, VB nt_), (8, I6 (i_ : Int)), (9, .own 9 0), (10, VT d7_), (74, VB ce_)], [(5, ⟨113, [I8 f2_.x0, I8 f2_.x1, I8 f2_.x2, I1 f2_.x3, I1 f2_.x4, I8 f2_.x5, I8 f2_.x6, I8 f2_.x7, I8 f2_.x8, I8 f2_.x9, I8 f2_.y0, I8 f2_.y1, I8 f2_.y2]⟩), (9, ⟨113, [I8 h7_.x0, I8 h7_.x1, I8 h7_.x2, I1 h7_.x3, I1 h7_.x4, I8 h7_.x5, I8 h7_.x6, I8 h7_.x7, I8 h7_.x8, I8 h7_.x9, I8 h7_.y0, I8 h7_.y1, I8 h7_.y2]⟩)]⟩ ?_
           refine X.joinCG (Qc B84 518463) [.blk 1, Qs B84 4051, .loop J2, .blk 0, Qs B84 127] ⟨153, [(0, VL A ps.length c), (4, VL X_ s_.length cx_), (5, .own 5 0), (6, VB (ce_ || (h7_.x0 % 4 == 3))), (7, VB nt_), (8, I6 (i_ : Int)), (9, .own 9 0), (10, VT d7_)], [(5, ⟨113, [I8 f2_.x0, I8 f2_.x1, I8 f2_.x2, I1 f2_.x3, I1 f2_.x4, I8 f2_.x5, I8 f2_.x6, I8 f2_.x7, I8 f2_.x8, I8 f2_.x9, I8 f2_.y0, I8 f2_.y1, I8 f2_.y2]⟩), (9, ⟨113, [I8 h7_.x0, I8 h7_.x1, I8 h7_.x2, I1 h7_.x3, I1 h7_.x4, I8 h7_.x5, I8 h7_.x6, I8 h7_.x7, I8 h7_.x8, I8 h7_.x9, I8 h7_.y0, I8 h7_.y1, I8 h7_.y2]⟩)]⟩ ?_ fun hY17 => ?_
           ·
            intro G17 hG17
            replace hps := hps.mono hG17.le
            replace hrx_ := hrx_.mono hG17.le
            replace hr6 := hr6.mono hG17.le
            refine Rn 4 (Qo B84 1036926 2) [Qs B84 1036927, .blk 1, Qs B84 4051, .loop J2, .blk 0, Qs B84 127] ⟨153, [(0, VL A ps.length c), (4, VL X_ s_.length cx_), (5, .own 5 0), (6, VB (ce_ || (h7_.x0 % 4 == 3))), (7, VB nt_), (8, I6 (i_ : Int)), (9, .own 9 0), (10, VT d7_), (81, VB nt_)], [(5, ⟨113, [I8 f2_.x0, I8 f2_.x1, I8 f2_.x2, I1 f2_.x3, I1 f2_.x4, I8 f2_.x5, I8 f2_.x6, I8 f2_.x7, I8 f2_.x8, I8 f2_.x9, I8 f2_.y0, I8 f2_.y1, I8 f2_.y2]⟩), (9, ⟨113, [I8 h7_.x0, I8 h7_.x1, I8 h7_.x2, I1 h7_.x3, I1 h7_.x4, I8 h7_.x5, I8 h7_.x6, I8 h7_.x7, I8 h7_.x8, I8 h7_.x9, I8 h7_.y0, I8 h7_.y1, I8 h7_.y2]⟩)]⟩ ?_
            refine X.joinCG (Qc B84 1036927) [.blk 1, Qs B84 4051, .loop J2, .blk 0, Qs B84 127] ⟨153, [(0, VL A ps.length c), (4, VL X_ s_.length cx_), (5, .own 5 0), (6, VB (ce_ || (h7_.x0 % 4 == 3))), (7, VB (nt_ || (h7_.x0 % 4 == 0))), (8, I6 (i_ : Int)), (9, .own 9 0), (10, VT d7_)], [(5, ⟨113, [I8 f2_.x0, I8 f2_.x1, I8 f2_.x2, I1 f2_.x3, I1 f2_.x4, I8 f2_.x5, I8 f2_.x6, I8 f2_.x7, I8 f2_.x8, I8 f2_.x9, I8 f2_.y0, I8 f2_.y1, I8 f2_.y2]⟩), (9, ⟨113, [I8 h7_.x0, I8 h7_.x1, I8 h7_.x2, I1 h7_.x3, I1 h7_.x4, I8 h7_.x5, I8 h7_.x6, I8 h7_.x7, I8 h7_.x8, I8 h7_.x9, I8 h7_.y0, I8 h7_.y1, I8 h7_.y2]⟩)]⟩ ?_ fun hY18 => ?_
            ·
             intro G18 hG18
             replace hps := hps.mono hG18.le
             replace hrx_ := hrx_.mono hG18.le
             replace hr6 := hr6.mono hG18.le
             refine Rn 5 (Qo B84 1036927 4) [.blk 1, Qs B84 4051, .loop J2, .blk 0, Qs B84 127] ⟨153, [(0, VL A ps.length c), (4, VL X_ s_.length cx_), (5, .own 5 0), (6, VB (ce_ || (h7_.x0 % 4 == 3))), (7, VB (nt_ || (h7_.x0 % 4 == 0))), (8, I6 (i_ : Int)), (87, VL X_ s_.length cx_), (90, .v (.agg #[N8 h7_.x0, N8 h7_.x1, N8 h7_.x2, N1 h7_.x3, N1 h7_.x4, N8 h7_.x5, N8 h7_.x6, N8 h7_.x7, N8 h7_.x8, N8 h7_.x9, N8 h7_.y0, N8 h7_.y1, N8 h7_.y2, .string d7_]))], [(5, ⟨113, [I8 f2_.x0, I8 f2_.x1, I8 f2_.x2, I1 f2_.x3, I1 f2_.x4, I8 f2_.x5, I8 f2_.x6, I8 f2_.x7, I8 f2_.x8, I8 f2_.x9, I8 f2_.y0, I8 f2_.y1, I8 f2_.y2]⟩)]⟩ ?_
             refine Cg 145 [.slice X_ s_.length cx_, .agg #[N8 h7_.x0, N8 h7_.x1, N8 h7_.x2, N1 h7_.x3, N1 h7_.x4, N8 h7_.x5, N8 h7_.x6, N8 h7_.x7, N8 h7_.x8, N8 h7_.x9, N8 h7_.y0, N8 h7_.y1, N8 h7_.y2, .string d7_]] 45 (rPut_ok2 X_ cx_ s_ (h7_, d7_) _ hrx_ hlx_ hmx_ (by omega) hsok_ hxo_) ?_
             rintro v19 G19 rows19 hG19 ⟨A19, c19, rfl, rfl⟩
             replace hps := hps.mono hG19.le
             replace hrx_ := hrx_.mono hG19.le
             replace hr6 := hr6.mono hG19.le
             refine X.asR (R' := [(45, RR 196 14 A19 ((insP plI s_ (h7_, d7_)).length) c19 ((insP plI s_ (h7_, d7_)).flatMap pkC))]) rfl ?_
             refine X.tellR [45] (R' := [(45, RR 196 14 A19 ((insP plI s_ (h7_, d7_)).length) c19 ((insP plI s_ (h7_, d7_)).flatMap pkC))]) rfl ?_
             refine X.capLe (i := 45) (q := (RR 196 14 A19 ((insP plI s_ (h7_, d7_)).length) c19 ((insP plI s_ (h7_, d7_)).flatMap pkC))) (n := (insP plI s_ (h7_, d7_)).length) (c := c19) (A := A19) rfl rfl ?_
             intro hle20 hmx20
             refine X.freezeT (d := pkD) (i := 45) (n := (insP plI s_ (h7_, d7_)).length) (c := c19) (A := A19) ((insP plI s_ (h7_, d7_))) rfl (by decide) (fun _ _ => pkD_reps) (by kernel_rfl) (fun _ h => h) ?_
             intro G20 hG20 hr20
             replace hps := hps.mono hG20.le
             replace hrx_ := hrx_.mono hG20.le
             replace hr6 := hr6.mono hG20.le
             refine Rn 7 (Qo B84 4051 2) [.loop J2, .blk 0, Qs B84 127] ⟨153, [(0, VL A ps.length c), (4, VL A19 ((insP plI s_ (h7_, d7_)).length) c19), (5, .own 5 0), (6, VB (ce_ || (h7_.x0 % 4 == 3))), (7, VB (nt_ || (h7_.x0 % 4 == 0))), (8, I6 (i_ : Int)), (23, I6 (IntKind.i64.wrap ((i_ : Int) + 1)))], [(5, ⟨113, [I8 f2_.x0, I8 f2_.x1, I8 f2_.x2, I1 f2_.x3, I1 f2_.x4, I8 f2_.x5, I8 f2_.x6, I8 f2_.x7, I8 f2_.x8, I8 f2_.x9, I8 f2_.y0, I8 f2_.y1, I8 f2_.y2]⟩)]⟩ ?_
             refine Kn 23 .i64 ((i_ : Int) + 1) rfl (wi64 (by omega) (by omega)) ?_
             refine Rn 2 (.ex .normal) [.loop J2, .blk 0, Qs B84 127] ⟨153, [(0, VL A ps.length c), (4, VL A19 ((insP plI s_ (h7_, d7_)).length) c19), (5, .own 5 0), (6, VB (ce_ || (h7_.x0 % 4 == 3))), (7, VB (nt_ || (h7_.x0 % 4 == 0))), (8, I6 ((i_ : Int) + 1))], [(5, ⟨113, [I8 f2_.x0, I8 f2_.x1, I8 f2_.x2, I1 f2_.x3, I1 f2_.x4, I8 f2_.x5, I8 f2_.x6, I8 f2_.x7, I8 f2_.x8, I8 f2_.x9, I8 f2_.y0, I8 f2_.y1, I8 f2_.y2]⟩)]⟩ ?_
             have hst_ : stepI l_ (ps.getD i_ []) = 0 := stepI_fine hdd_ he_ rfl hsm_ hmr_
             have hxp_ : [(h7_, d7_)] = [(decI (ps.getD i_ [])).1] := by rw [hdd_]
             exact X.again (hJ2 _ _ _ _ ⟨A19, c19, (insP plI s_ (h7_, d7_)), (l_ ++ [(h7_, d7_)]), f2_, (ce_ || (h7_.x0 % 4 == 3)), (nt_ || (h7_.x0 % 4 == 0)), (i_ + 1), rfl, rfl, (((((((hG2.trans hG7).trans hG9).trans hG14).trans hG17).trans hG18).trans hG19).trans hG20), ⟨by omega, by rw [List.length_append, hli_]; rfl, by rw [hxp_, ← readI_next (by omega) hst_]; exact hr_, ⟨by rw [sortI_snoc, hs_], fun x_ h_ => (List.mem_append.1 h_).elim (hlo_ x_) (fun h1_ => by rw [List.mem_singleton.1 h1_]; exact hxo_), fun _ => by
              rw [← hf2_]
              unfold firstI
              rcases l_ with _ | ⟨y_, r_⟩ <;> rfl⟩, by rw [hadI_snoc, hce_], by rw [hadI_snoc, hnt_], hr20, hle20, hmx20⟩, rfl⟩ (by omega))
            ·
             refine X.split 81 rfl (fun h21 => ?_) (fun h21 => ?_)
             ·
              refine Rn 8 (Qc B84 1036927) [.blk 1, Qs B84 4051, .loop J2, .blk 0, Qs B84 127] ⟨153, [(0, VL A ps.length c), (4, VL X_ s_.length cx_), (5, .own 5 0), (6, VB (ce_ || (h7_.x0 % 4 == 3))), (7, VB true), (8, I6 (i_ : Int)), (9, .own 9 0), (10, VT d7_)], [(5, ⟨113, [I8 f2_.x0, I8 f2_.x1, I8 f2_.x2, I1 f2_.x3, I1 f2_.x4, I8 f2_.x5, I8 f2_.x6, I8 f2_.x7, I8 f2_.x8, I8 f2_.x9, I8 f2_.y0, I8 f2_.y1, I8 f2_.y2]⟩), (9, ⟨113, [I8 h7_.x0, I8 h7_.x1, I8 h7_.x2, I1 h7_.x3, I1 h7_.x4, I8 h7_.x5, I8 h7_.x6, I8 h7_.x7, I8 h7_.x8, I8 h7_.x9, I8 h7_.y0, I8 h7_.y1, I8 h7_.y2]⟩)]⟩ ?_
              refine X.castS ⟨153, [(0, VL A ps.length c), (4, VL X_ s_.length cx_), (5, .own 5 0), (6, VB (ce_ || (h7_.x0 % 4 == 3))), (7, VB (nt_ || (h7_.x0 % 4 == 0))), (8, I6 (i_ : Int)), (9, .own 9 0), (10, VT d7_)], [(5, ⟨113, [I8 f2_.x0, I8 f2_.x1, I8 f2_.x2, I1 f2_.x3, I1 f2_.x4, I8 f2_.x5, I8 f2_.x6, I8 f2_.x7, I8 f2_.x8, I8 f2_.x9, I8 f2_.y0, I8 f2_.y1, I8 f2_.y2]⟩), (9, ⟨113, [I8 h7_.x0, I8 h7_.x1, I8 h7_.x2, I1 h7_.x3, I1 h7_.x4, I8 h7_.x5, I8 h7_.x6, I8 h7_.x7, I8 h7_.x8, I8 h7_.x9, I8 h7_.y0, I8 h7_.y1, I8 h7_.y2]⟩)]⟩ (by rw [h21]; rfl) ?_
              exact hY18 _ (Ge.refl _ _)
             ·
              refine Rn 3 (Qo B84 1036926 5) [Qs B84 1036927, .blk 1, Qs B84 4051, .loop J2, .blk 0, Qs B84 127] ⟨153, [(0, VL A ps.length c), (4, VL X_ s_.length cx_), (5, .own 5 0), (6, VB (ce_ || (h7_.x0 % 4 == 3))), (7, VB nt_), (8, I6 (i_ : Int)), (9, .own 9 0), (10, VT d7_), (81, VB false), (84, I8 (Int.tmod h7_.x0 4))], [(5, ⟨113, [I8 f2_.x0, I8 f2_.x1, I8 f2_.x2, I1 f2_.x3, I1 f2_.x4, I8 f2_.x5, I8 f2_.x6, I8 f2_.x7, I8 f2_.x8, I8 f2_.x9, I8 f2_.y0, I8 f2_.y1, I8 f2_.y2]⟩), (9, ⟨113, [I8 h7_.x0, I8 h7_.x1, I8 h7_.x2, I1 h7_.x3, I1 h7_.x4, I8 h7_.x5, I8 h7_.x6, I8 h7_.x7, I8 h7_.x8, I8 h7_.x9, I8 h7_.y0, I8 h7_.y1, I8 h7_.y2]⟩)]⟩ ?_
              refine Kn 84 .u8 (h7_.x0 % 4) rfl (Int.tmod_eq_emod_of_nonneg (by omega)) ?_
              refine Rn 5 (Qc B84 1036927) [.blk 1, Qs B84 4051, .loop J2, .blk 0, Qs B84 127] ⟨153, [(0, VL A ps.length c), (4, VL X_ s_.length cx_), (5, .own 5 0), (6, VB (ce_ || (h7_.x0 % 4 == 3))), (7, VB ((h7_.x0 % 4) == 0)), (8, I6 (i_ : Int)), (9, .own 9 0), (10, VT d7_)], [(5, ⟨113, [I8 f2_.x0, I8 f2_.x1, I8 f2_.x2, I1 f2_.x3, I1 f2_.x4, I8 f2_.x5, I8 f2_.x6, I8 f2_.x7, I8 f2_.x8, I8 f2_.x9, I8 f2_.y0, I8 f2_.y1, I8 f2_.y2]⟩), (9, ⟨113, [I8 h7_.x0, I8 h7_.x1, I8 h7_.x2, I1 h7_.x3, I1 h7_.x4, I8 h7_.x5, I8 h7_.x6, I8 h7_.x7, I8 h7_.x8, I8 h7_.x9, I8 h7_.y0, I8 h7_.y1, I8 h7_.y2]⟩)]⟩ ?_
              refine X.castS ⟨153, [(0, VL A ps.length c), (4, VL X_ s_.length cx_), (5, .own 5 0), (6, VB (ce_ || (h7_.x0 % 4 == 3))), (7, VB (nt_ || (h7_.x0 % 4 == 0))), (8, I6 (i_ : Int)), (9, .own 9 0), (10, VT d7_)], [(5, ⟨113, [I8 f2_.x0, I8 f2_.x1, I8 f2_.x2, I1 f2_.x3, I1 f2_.x4, I8 f2_.x5, I8 f2_.x6, I8 f2_.x7, I8 f2_.x8, I8 f2_.x9, I8 f2_.y0, I8 f2_.y1, I8 f2_.y2]⟩), (9, ⟨113, [I8 h7_.x0, I8 h7_.x1, I8 h7_.x2, I1 h7_.x3, I1 h7_.x4, I8 h7_.x5, I8 h7_.x6, I8 h7_.x7, I8 h7_.x8, I8 h7_.x9, I8 h7_.y0, I8 h7_.y1, I8 h7_.y2]⟩)]⟩ (by rw [h21]; rfl) ?_
              exact hY18 _ (Ge.refl _ _)
           ·
            refine X.split 74 rfl (fun h22 => ?_) (fun h22 => ?_)
            ·
             refine Rn 8 (Qc B84 518463) [.blk 1, Qs B84 4051, .loop J2, .blk 0, Qs B84 127] ⟨153, [(0, VL A ps.length c), (4, VL X_ s_.length cx_), (5, .own 5 0), (6, VB true), (7, VB nt_), (8, I6 (i_ : Int)), (9, .own 9 0), (10, VT d7_)], [(5, ⟨113, [I8 f2_.x0, I8 f2_.x1, I8 f2_.x2, I1 f2_.x3, I1 f2_.x4, I8 f2_.x5, I8 f2_.x6, I8 f2_.x7, I8 f2_.x8, I8 f2_.x9, I8 f2_.y0, I8 f2_.y1, I8 f2_.y2]⟩), (9, ⟨113, [I8 h7_.x0, I8 h7_.x1, I8 h7_.x2, I1 h7_.x3, I1 h7_.x4, I8 h7_.x5, I8 h7_.x6, I8 h7_.x7, I8 h7_.x8, I8 h7_.x9, I8 h7_.y0, I8 h7_.y1, I8 h7_.y2]⟩)]⟩ ?_
             refine X.castS ⟨153, [(0, VL A ps.length c), (4, VL X_ s_.length cx_), (5, .own 5 0), (6, VB (ce_ || (h7_.x0 % 4 == 3))), (7, VB nt_), (8, I6 (i_ : Int)), (9, .own 9 0), (10, VT d7_)], [(5, ⟨113, [I8 f2_.x0, I8 f2_.x1, I8 f2_.x2, I1 f2_.x3, I1 f2_.x4, I8 f2_.x5, I8 f2_.x6, I8 f2_.x7, I8 f2_.x8, I8 f2_.x9, I8 f2_.y0, I8 f2_.y1, I8 f2_.y2]⟩), (9, ⟨113, [I8 h7_.x0, I8 h7_.x1, I8 h7_.x2, I1 h7_.x3, I1 h7_.x4, I8 h7_.x5, I8 h7_.x6, I8 h7_.x7, I8 h7_.x8, I8 h7_.x9, I8 h7_.y0, I8 h7_.y1, I8 h7_.y2]⟩)]⟩ (by rw [h22]; rfl) ?_
             exact hY17 _ (Ge.refl _ _)
            ·
             refine Rn 3 (Qo B84 518462 5) [Qs B84 518463, .blk 1, Qs B84 4051, .loop J2, .blk 0, Qs B84 127] ⟨153, [(0, VL A ps.length c), (4, VL X_ s_.length cx_), (5, .own 5 0), (6, VB ce_), (7, VB nt_), (8, I6 (i_ : Int)), (9, .own 9 0), (10, VT d7_), (74, VB false), (77, I8 (Int.tmod h7_.x0 4))], [(5, ⟨113, [I8 f2_.x0, I8 f2_.x1, I8 f2_.x2, I1 f2_.x3, I1 f2_.x4, I8 f2_.x5, I8 f2_.x6, I8 f2_.x7, I8 f2_.x8, I8 f2_.x9, I8 f2_.y0, I8 f2_.y1, I8 f2_.y2]⟩), (9, ⟨113, [I8 h7_.x0, I8 h7_.x1, I8 h7_.x2, I1 h7_.x3, I1 h7_.x4, I8 h7_.x5, I8 h7_.x6, I8 h7_.x7, I8 h7_.x8, I8 h7_.x9, I8 h7_.y0, I8 h7_.y1, I8 h7_.y2]⟩)]⟩ ?_
             refine Kn 77 .u8 (h7_.x0 % 4) rfl (Int.tmod_eq_emod_of_nonneg (by omega)) ?_
             refine Rn 5 (Qc B84 518463) [.blk 1, Qs B84 4051, .loop J2, .blk 0, Qs B84 127] ⟨153, [(0, VL A ps.length c), (4, VL X_ s_.length cx_), (5, .own 5 0), (6, VB ((h7_.x0 % 4) == 3)), (7, VB nt_), (8, I6 (i_ : Int)), (9, .own 9 0), (10, VT d7_)], [(5, ⟨113, [I8 f2_.x0, I8 f2_.x1, I8 f2_.x2, I1 f2_.x3, I1 f2_.x4, I8 f2_.x5, I8 f2_.x6, I8 f2_.x7, I8 f2_.x8, I8 f2_.x9, I8 f2_.y0, I8 f2_.y1, I8 f2_.y2]⟩), (9, ⟨113, [I8 h7_.x0, I8 h7_.x1, I8 h7_.x2, I1 h7_.x3, I1 h7_.x4, I8 h7_.x5, I8 h7_.x6, I8 h7_.x7, I8 h7_.x8, I8 h7_.x9, I8 h7_.y0, I8 h7_.y1, I8 h7_.y2]⟩)]⟩ ?_
             refine X.castS ⟨153, [(0, VL A ps.length c), (4, VL X_ s_.length cx_), (5, .own 5 0), (6, VB (ce_ || (h7_.x0 % 4 == 3))), (7, VB nt_), (8, I6 (i_ : Int)), (9, .own 9 0), (10, VT d7_)], [(5, ⟨113, [I8 f2_.x0, I8 f2_.x1, I8 f2_.x2, I1 f2_.x3, I1 f2_.x4, I8 f2_.x5, I8 f2_.x6, I8 f2_.x7, I8 f2_.x8, I8 f2_.x9, I8 f2_.y0, I8 f2_.y1, I8 f2_.y2]⟩), (9, ⟨113, [I8 h7_.x0, I8 h7_.x1, I8 h7_.x2, I1 h7_.x3, I1 h7_.x4, I8 h7_.x5, I8 h7_.x6, I8 h7_.x7, I8 h7_.x8, I8 h7_.x9, I8 h7_.y0, I8 h7_.y1, I8 h7_.y2]⟩)]⟩ (by rw [h22]; rfl) ?_
             exact hY17 _ (Ge.refl _ _)
         ·
          replace h15 : h7_.x4 / 8192 % 2 ≠ 1 := by simpa using h15
          have hmo_ : moreI h7_ = false := by unfold moreI; exact beq_false_of_ne h15
          have hmr_ : ¬ (moreI h7_ = true ∧ d7_.size % 8 ≠ 0) := fun h_ => by rw [hmo_] at h_; cases h_.1
          refine Rn 14 (Qo B84 518462 2) [Qs B84 518463, .blk 1, Qs B84 4051, .loop J2, .blk 0, Qs B84 127] ⟨153, [(0, VL A ps.length c), (4, VL X_ s_.length cx_), (5, .own 5 0), (6, VB ce_), (7, VB nt_), (8, I6 (i_ : Int)), (9, .own 9 0), (10, VT d7_), (74, VB ce_)], [(5, ⟨113, [I8 f2_.x0, I8 f2_.x1, I8 f2_.x2, I1 f2_.x3, I1 f2_.x4, I8 f2_.x5, I8 f2_.x6, I8 f2_.x7, I8 f2_.x8, I8 f2_.x9, I8 f2_.y0, I8 f2_.y1, I8 f2_.y2]⟩), (9, ⟨113, [I8 h7_.x0, I8 h7_.x1, I8 h7_.x2, I1 h7_.x3, I1 h7_.x4, I8 h7_.x5, I8 h7_.x6, I8 h7_.x7, I8 h7_.x8, I8 h7_.x9, I8 h7_.y0, I8 h7_.y1, I8 h7_.y2]⟩)]⟩ ?_
          refine X.joinCG (Qc B84 518463) [.blk 1, Qs B84 4051, .loop J2, .blk 0, Qs B84 127] ⟨153, [(0, VL A ps.length c), (4, VL X_ s_.length cx_), (5, .own 5 0), (6, VB (ce_ || (h7_.x0 % 4 == 3))), (7, VB nt_), (8, I6 (i_ : Int)), (9, .own 9 0), (10, VT d7_)], [(5, ⟨113, [I8 f2_.x0, I8 f2_.x1, I8 f2_.x2, I1 f2_.x3, I1 f2_.x4, I8 f2_.x5, I8 f2_.x6, I8 f2_.x7, I8 f2_.x8, I8 f2_.x9, I8 f2_.y0, I8 f2_.y1, I8 f2_.y2]⟩), (9, ⟨113, [I8 h7_.x0, I8 h7_.x1, I8 h7_.x2, I1 h7_.x3, I1 h7_.x4, I8 h7_.x5, I8 h7_.x6, I8 h7_.x7, I8 h7_.x8, I8 h7_.x9, I8 h7_.y0, I8 h7_.y1, I8 h7_.y2]⟩)]⟩ ?_ fun hY23 => ?_
          ·
           intro G23 hG23
           replace hps := hps.mono hG23.le
           replace hrx_ := hrx_.mono hG23.le
           replace hr6 := hr6.mono hG23.le
           refine Rn 4 (Qo B84 1036926 2) [Qs B84 1036927, .blk 1, Qs B84 4051, .loop J2, .blk 0, Qs B84 127] ⟨153, [(0, VL A ps.length c), (4, VL X_ s_.length cx_), (5, .own 5 0), (6, VB (ce_ || (h7_.x0 % 4 == 3))), (7, VB nt_), (8, I6 (i_ : Int)), (9, .own 9 0), (10, VT d7_), (81, VB nt_)], [(5, ⟨113, [I8 f2_.x0, I8 f2_.x1, I8 f2_.x2, I1 f2_.x3, I1 f2_.x4, I8 f2_.x5, I8 f2_.x6, I8 f2_.x7, I8 f2_.x8, I8 f2_.x9, I8 f2_.y0, I8 f2_.y1, I8 f2_.y2]⟩), (9, ⟨113, [I8 h7_.x0, I8 h7_.x1, I8 h7_.x2, I1 h7_.x3, I1 h7_.x4, I8 h7_.x5, I8 h7_.x6, I8 h7_.x7, I8 h7_.x8, I8 h7_.x9, I8 h7_.y0, I8 h7_.y1, I8 h7_.y2]⟩)]⟩ ?_
           refine X.joinCG (Qc B84 1036927) [.blk 1, Qs B84 4051, .loop J2, .blk 0, Qs B84 127] ⟨153, [(0, VL A ps.length c), (4, VL X_ s_.length cx_), (5, .own 5 0), (6, VB (ce_ || (h7_.x0 % 4 == 3))), (7, VB (nt_ || (h7_.x0 % 4 == 0))), (8, I6 (i_ : Int)), (9, .own 9 0), (10, VT d7_)], [(5, ⟨113, [I8 f2_.x0, I8 f2_.x1, I8 f2_.x2, I1 f2_.x3, I1 f2_.x4, I8 f2_.x5, I8 f2_.x6, I8 f2_.x7, I8 f2_.x8, I8 f2_.x9, I8 f2_.y0, I8 f2_.y1, I8 f2_.y2]⟩), (9, ⟨113, [I8 h7_.x0, I8 h7_.x1, I8 h7_.x2, I1 h7_.x3, I1 h7_.x4, I8 h7_.x5, I8 h7_.x6, I8 h7_.x7, I8 h7_.x8, I8 h7_.x9, I8 h7_.y0, I8 h7_.y1, I8 h7_.y2]⟩)]⟩ ?_ fun hY24 => ?_
           ·
            intro G24 hG24
            replace hps := hps.mono hG24.le
            replace hrx_ := hrx_.mono hG24.le
            replace hr6 := hr6.mono hG24.le
            refine Rn 5 (Qo B84 1036927 4) [.blk 1, Qs B84 4051, .loop J2, .blk 0, Qs B84 127] ⟨153, [(0, VL A ps.length c), (4, VL X_ s_.length cx_), (5, .own 5 0), (6, VB (ce_ || (h7_.x0 % 4 == 3))), (7, VB (nt_ || (h7_.x0 % 4 == 0))), (8, I6 (i_ : Int)), (87, VL X_ s_.length cx_), (90, .v (.agg #[N8 h7_.x0, N8 h7_.x1, N8 h7_.x2, N1 h7_.x3, N1 h7_.x4, N8 h7_.x5, N8 h7_.x6, N8 h7_.x7, N8 h7_.x8, N8 h7_.x9, N8 h7_.y0, N8 h7_.y1, N8 h7_.y2, .string d7_]))], [(5, ⟨113, [I8 f2_.x0, I8 f2_.x1, I8 f2_.x2, I1 f2_.x3, I1 f2_.x4, I8 f2_.x5, I8 f2_.x6, I8 f2_.x7, I8 f2_.x8, I8 f2_.x9, I8 f2_.y0, I8 f2_.y1, I8 f2_.y2]⟩)]⟩ ?_
            refine Cg 145 [.slice X_ s_.length cx_, .agg #[N8 h7_.x0, N8 h7_.x1, N8 h7_.x2, N1 h7_.x3, N1 h7_.x4, N8 h7_.x5, N8 h7_.x6, N8 h7_.x7, N8 h7_.x8, N8 h7_.x9, N8 h7_.y0, N8 h7_.y1, N8 h7_.y2, .string d7_]] 45 (rPut_ok2 X_ cx_ s_ (h7_, d7_) _ hrx_ hlx_ hmx_ (by omega) hsok_ hxo_) ?_
            rintro v25 G25 rows25 hG25 ⟨A25, c25, rfl, rfl⟩
            replace hps := hps.mono hG25.le
            replace hrx_ := hrx_.mono hG25.le
            replace hr6 := hr6.mono hG25.le
            refine X.asR (R' := [(45, RR 196 14 A25 ((insP plI s_ (h7_, d7_)).length) c25 ((insP plI s_ (h7_, d7_)).flatMap pkC))]) rfl ?_
            refine X.tellR [45] (R' := [(45, RR 196 14 A25 ((insP plI s_ (h7_, d7_)).length) c25 ((insP plI s_ (h7_, d7_)).flatMap pkC))]) rfl ?_
            refine X.capLe (i := 45) (q := (RR 196 14 A25 ((insP plI s_ (h7_, d7_)).length) c25 ((insP plI s_ (h7_, d7_)).flatMap pkC))) (n := (insP plI s_ (h7_, d7_)).length) (c := c25) (A := A25) rfl rfl ?_
            intro hle26 hmx26
            refine X.freezeT (d := pkD) (i := 45) (n := (insP plI s_ (h7_, d7_)).length) (c := c25) (A := A25) ((insP plI s_ (h7_, d7_))) rfl (by decide) (fun _ _ => pkD_reps) (by kernel_rfl) (fun _ h => h) ?_
            intro G26 hG26 hr26
            replace hps := hps.mono hG26.le
            replace hrx_ := hrx_.mono hG26.le
            replace hr6 := hr6.mono hG26.le
            refine Rn 7 (Qo B84 4051 2) [.loop J2, .blk 0, Qs B84 127] ⟨153, [(0, VL A ps.length c), (4, VL A25 ((insP plI s_ (h7_, d7_)).length) c25), (5, .own 5 0), (6, VB (ce_ || (h7_.x0 % 4 == 3))), (7, VB (nt_ || (h7_.x0 % 4 == 0))), (8, I6 (i_ : Int)), (23, I6 (IntKind.i64.wrap ((i_ : Int) + 1)))], [(5, ⟨113, [I8 f2_.x0, I8 f2_.x1, I8 f2_.x2, I1 f2_.x3, I1 f2_.x4, I8 f2_.x5, I8 f2_.x6, I8 f2_.x7, I8 f2_.x8, I8 f2_.x9, I8 f2_.y0, I8 f2_.y1, I8 f2_.y2]⟩)]⟩ ?_
            refine Kn 23 .i64 ((i_ : Int) + 1) rfl (wi64 (by omega) (by omega)) ?_
            refine Rn 2 (.ex .normal) [.loop J2, .blk 0, Qs B84 127] ⟨153, [(0, VL A ps.length c), (4, VL A25 ((insP plI s_ (h7_, d7_)).length) c25), (5, .own 5 0), (6, VB (ce_ || (h7_.x0 % 4 == 3))), (7, VB (nt_ || (h7_.x0 % 4 == 0))), (8, I6 ((i_ : Int) + 1))], [(5, ⟨113, [I8 f2_.x0, I8 f2_.x1, I8 f2_.x2, I1 f2_.x3, I1 f2_.x4, I8 f2_.x5, I8 f2_.x6, I8 f2_.x7, I8 f2_.x8, I8 f2_.x9, I8 f2_.y0, I8 f2_.y1, I8 f2_.y2]⟩)]⟩ ?_
            have hst_ : stepI l_ (ps.getD i_ []) = 0 := stepI_fine hdd_ he_ rfl hsm_ hmr_
            have hxp_ : [(h7_, d7_)] = [(decI (ps.getD i_ [])).1] := by rw [hdd_]
            exact X.again (hJ2 _ _ _ _ ⟨A25, c25, (insP plI s_ (h7_, d7_)), (l_ ++ [(h7_, d7_)]), f2_, (ce_ || (h7_.x0 % 4 == 3)), (nt_ || (h7_.x0 % 4 == 0)), (i_ + 1), rfl, rfl, (((((((hG2.trans hG7).trans hG9).trans hG14).trans hG23).trans hG24).trans hG25).trans hG26), ⟨by omega, by rw [List.length_append, hli_]; rfl, by rw [hxp_, ← readI_next (by omega) hst_]; exact hr_, ⟨by rw [sortI_snoc, hs_], fun x_ h_ => (List.mem_append.1 h_).elim (hlo_ x_) (fun h1_ => by rw [List.mem_singleton.1 h1_]; exact hxo_), fun _ => by
             rw [← hf2_]
             unfold firstI
             rcases l_ with _ | ⟨y_, r_⟩ <;> rfl⟩, by rw [hadI_snoc, hce_], by rw [hadI_snoc, hnt_], hr26, hle26, hmx26⟩, rfl⟩ (by omega))
           ·
            refine X.split 81 rfl (fun h27 => ?_) (fun h27 => ?_)
            ·
             refine Rn 8 (Qc B84 1036927) [.blk 1, Qs B84 4051, .loop J2, .blk 0, Qs B84 127] ⟨153, [(0, VL A ps.length c), (4, VL X_ s_.length cx_), (5, .own 5 0), (6, VB (ce_ || (h7_.x0 % 4 == 3))), (7, VB true), (8, I6 (i_ : Int)), (9, .own 9 0), (10, VT d7_)], [(5, ⟨113, [I8 f2_.x0, I8 f2_.x1, I8 f2_.x2, I1 f2_.x3, I1 f2_.x4, I8 f2_.x5, I8 f2_.x6, I8 f2_.x7, I8 f2_.x8, I8 f2_.x9, I8 f2_.y0, I8 f2_.y1, I8 f2_.y2]⟩), (9, ⟨113, [I8 h7_.x0, I8 h7_.x1, I8 h7_.x2, I1 h7_.x3, I1 h7_.x4, I8 h7_.x5, I8 h7_.x6, I8 h7_.x7, I8 h7_.x8, I8 h7_.x9, I8 h7_.y0, I8 h7_.y1, I8 h7_.y2]⟩)]⟩ ?_
             refine X.castS ⟨153, [(0, VL A ps.length c), (4, VL X_ s_.length cx_), (5, .own 5 0), (6, VB (ce_ || (h7_.x0 % 4 == 3))), (7, VB (nt_ || (h7_.x0 % 4 == 0))), (8, I6 (i_ : Int)), (9, .own 9 0), (10, VT d7_)], [(5, ⟨113, [I8 f2_.x0, I8 f2_.x1, I8 f2_.x2, I1 f2_.x3, I1 f2_.x4, I8 f2_.x5, I8 f2_.x6, I8 f2_.x7, I8 f2_.x8, I8 f2_.x9, I8 f2_.y0, I8 f2_.y1, I8 f2_.y2]⟩), (9, ⟨113, [I8 h7_.x0, I8 h7_.x1, I8 h7_.x2, I1 h7_.x3, I1 h7_.x4, I8 h7_.x5, I8 h7_.x6, I8 h7_.x7, I8 h7_.x8, I8 h7_.x9, I8 h7_.y0, I8 h7_.y1, I8 h7_.y2]⟩)]⟩ (by rw [h27]; rfl) ?_
             exact hY24 _ (Ge.refl _ _)
            ·
             refine Rn 3 (Qo B84 1036926 5) [Qs B84 1036927, .blk 1, Qs B84 4051, .loop J2, .blk 0, Qs B84 127] ⟨153, [(0, VL A ps.length c), (4, VL X_ s_.length cx_), (5, .own 5 0), (6, VB (ce_ || (h7_.x0 % 4 == 3))), (7, VB nt_), (8, I6 (i_ : Int)), (9, .own 9 0), (10, VT d7_), (81, VB false), (84, I8 (Int.tmod h7_.x0 4))], [(5, ⟨113, [I8 f2_.x0, I8 f2_.x1, I8 f2_.x2, I1 f2_.x3, I1 f2_.x4, I8 f2_.x5, I8 f2_.x6, I8 f2_.x7, I8 f2_.x8, I8 f2_.x9, I8 f2_.y0, I8 f2_.y1, I8 f2_.y2]⟩), (9, ⟨113, [I8 h7_.x0, I8 h7_.x1, I8 h7_.x2, I1 h7_.x3, I1 h7_.x4, I8 h7_.x5, I8 h7_.x6, I8 h7_.x7, I8 h7_.x8, I8 h7_.x9, I8 h7_.y0, I8 h7_.y1, I8 h7_.y2]⟩)]⟩ ?_
             refine Kn 84 .u8 (h7_.x0 % 4) rfl (Int.tmod_eq_emod_of_nonneg (by omega)) ?_
             refine Rn 5 (Qc B84 1036927) [.blk 1, Qs B84 4051, .loop J2, .blk 0, Qs B84 127] ⟨153, [(0, VL A ps.length c), (4, VL X_ s_.length cx_), (5, .own 5 0), (6, VB (ce_ || (h7_.x0 % 4 == 3))), (7, VB ((h7_.x0 % 4) == 0)), (8, I6 (i_ : Int)), (9, .own 9 0), (10, VT d7_)], [(5, ⟨113, [I8 f2_.x0, I8 f2_.x1, I8 f2_.x2, I1 f2_.x3, I1 f2_.x4, I8 f2_.x5, I8 f2_.x6, I8 f2_.x7, I8 f2_.x8, I8 f2_.x9, I8 f2_.y0, I8 f2_.y1, I8 f2_.y2]⟩), (9, ⟨113, [I8 h7_.x0, I8 h7_.x1, I8 h7_.x2, I1 h7_.x3, I1 h7_.x4, I8 h7_.x5, I8 h7_.x6, I8 h7_.x7, I8 h7_.x8, I8 h7_.x9, I8 h7_.y0, I8 h7_.y1, I8 h7_.y2]⟩)]⟩ ?_
             refine X.castS ⟨153, [(0, VL A ps.length c), (4, VL X_ s_.length cx_), (5, .own 5 0), (6, VB (ce_ || (h7_.x0 % 4 == 3))), (7, VB (nt_ || (h7_.x0 % 4 == 0))), (8, I6 (i_ : Int)), (9, .own 9 0), (10, VT d7_)], [(5, ⟨113, [I8 f2_.x0, I8 f2_.x1, I8 f2_.x2, I1 f2_.x3, I1 f2_.x4, I8 f2_.x5, I8 f2_.x6, I8 f2_.x7, I8 f2_.x8, I8 f2_.x9, I8 f2_.y0, I8 f2_.y1, I8 f2_.y2]⟩), (9, ⟨113, [I8 h7_.x0, I8 h7_.x1, I8 h7_.x2, I1 h7_.x3, I1 h7_.x4, I8 h7_.x5, I8 h7_.x6, I8 h7_.x7, I8 h7_.x8, I8 h7_.x9, I8 h7_.y0, I8 h7_.y1, I8 h7_.y2]⟩)]⟩ (by rw [h27]; rfl) ?_
             exact hY24 _ (Ge.refl _ _)
          ·
           refine X.split 74 rfl (fun h28 => ?_) (fun h28 => ?_)
           ·
            refine Rn 8 (Qc B84 518463) [.blk 1, Qs B84 4051, .loop J2, .blk 0, Qs B84 127] ⟨153, [(0, VL A ps.length c), (4, VL X_ s_.length cx_), (5, .own 5 0), (6, VB true), (7, VB nt_), (8, I6 (i_ : Int)), (9, .own 9 0), (10, VT d7_)], [(5, ⟨113, [I8 f2_.x0, I8 f2_.x1, I8 f2_.x2, I1 f2_.x3, I1 f2_.x4, I8 f2_.x5, I8 f2_.x6, I8 f2_.x7, I8 f2_.x8, I8 f2_.x9, I8 f2_.y0, I8 f2_.y1, I8 f2_.y2]⟩), (9, ⟨113, [I8 h7_.x0, I8 h7_.x1, I8 h7_.x2, I1 h7_.x3, I1 h7_.x4, I8 h7_.x5, I8 h7_.x6, I8 h7_.x7, I8 h7_.x8, I8 h7_.x9, I8 h7_.y0, I8 h7_.y1, I8 h7_.y2]⟩)]⟩ ?_
            refine X.castS ⟨153, [(0, VL A ps.length c), (4, VL X_ s_.length cx_), (5, .own 5 0), (6, VB (ce_ || (h7_.x0 % 4 == 3))), (7, VB nt_), (8, I6 (i_ : Int)), (9, .own 9 0), (10, VT d7_)], [(5, ⟨113, [I8 f2_.x0, I8 f2_.x1, I8 f2_.x2, I1 f2_.x3, I1 f2_.x4, I8 f2_.x5, I8 f2_.x6, I8 f2_.x7, I8 f2_.x8, I8 f2_.x9, I8 f2_.y0, I8 f2_.y1, I8 f2_.y2]⟩), (9, ⟨113, [I8 h7_.x0, I8 h7_.x1, I8 h7_.x2, I1 h7_.x3, I1 h7_.x4, I8 h7_.x5, I8 h7_.x6, I8 h7_.x7, I8 h7_.x8, I8 h7_.x9, I8 h7_.y0, I8 h7_.y1, I8 h7_.y2]⟩)]⟩ (by rw [h28]; rfl) ?_
            exact hY23 _ (Ge.refl _ _)
           ·
            refine Rn 3 (Qo B84 518462 5) [Qs B84 518463, .blk 1, Qs B84 4051, .loop J2, .blk 0, Qs B84 127] ⟨153, [(0, VL A ps.length c), (4, VL X_ s_.length cx_), (5, .own 5 0), (6, VB ce_), (7, VB nt_), (8, I6 (i_ : Int)), (9, .own 9 0), (10, VT d7_), (74, VB false), (77, I8 (Int.tmod h7_.x0 4))], [(5, ⟨113, [I8 f2_.x0, I8 f2_.x1, I8 f2_.x2, I1 f2_.x3, I1 f2_.x4, I8 f2_.x5, I8 f2_.x6, I8 f2_.x7, I8 f2_.x8, I8 f2_.x9, I8 f2_.y0, I8 f2_.y1, I8 f2_.y2]⟩), (9, ⟨113, [I8 h7_.x0, I8 h7_.x1, I8 h7_.x2, I1 h7_.x3, I1 h7_.x4, I8 h7_.x5, I8 h7_.x6, I8 h7_.x7, I8 h7_.x8, I8 h7_.x9, I8 h7_.y0, I8 h7_.y1, I8 h7_.y2]⟩)]⟩ ?_
            refine Kn 77 .u8 (h7_.x0 % 4) rfl (Int.tmod_eq_emod_of_nonneg (by omega)) ?_
            refine Rn 5 (Qc B84 518463) [.blk 1, Qs B84 4051, .loop J2, .blk 0, Qs B84 127] ⟨153, [(0, VL A ps.length c), (4, VL X_ s_.length cx_), (5, .own 5 0), (6, VB ((h7_.x0 % 4) == 3)), (7, VB nt_), (8, I6 (i_ : Int)), (9, .own 9 0), (10, VT d7_)], [(5, ⟨113, [I8 f2_.x0, I8 f2_.x1, I8 f2_.x2, I1 f2_.x3, I1 f2_.x4, I8 f2_.x5, I8 f2_.x6, I8 f2_.x7, I8 f2_.x8, I8 f2_.x9, I8 f2_.y0, I8 f2_.y1, I8 f2_.y2]⟩), (9, ⟨113, [I8 h7_.x0, I8 h7_.x1, I8 h7_.x2, I1 h7_.x3, I1 h7_.x4, I8 h7_.x5, I8 h7_.x6, I8 h7_.x7, I8 h7_.x8, I8 h7_.x9, I8 h7_.y0, I8 h7_.y1, I8 h7_.y2]⟩)]⟩ ?_
            refine X.castS ⟨153, [(0, VL A ps.length c), (4, VL X_ s_.length cx_), (5, .own 5 0), (6, VB (ce_ || (h7_.x0 % 4 == 3))), (7, VB nt_), (8, I6 (i_ : Int)), (9, .own 9 0), (10, VT d7_)], [(5, ⟨113, [I8 f2_.x0, I8 f2_.x1, I8 f2_.x2, I1 f2_.x3, I1 f2_.x4, I8 f2_.x5, I8 f2_.x6, I8 f2_.x7, I8 f2_.x8, I8 f2_.x9, I8 f2_.y0, I8 f2_.y1, I8 f2_.y2]⟩), (9, ⟨113, [I8 h7_.x0, I8 h7_.x1, I8 h7_.x2, I1 h7_.x3, I1 h7_.x4, I8 h7_.x5, I8 h7_.x6, I8 h7_.x7, I8 h7_.x8, I8 h7_.x9, I8 h7_.y0, I8 h7_.y1, I8 h7_.y2]⟩)]⟩ (by rw [h28]; rfl) ?_
            exact hY23 _ (Ge.refl _ _)
    ·
     refine X.split 37 rfl (fun h29 => ?_) (fun h29 => ?_)
     ·
      replace h29 : (i_ : Int) = 0 := by simpa using h29
      refine Rn 6 (Qc B84 64807) [.blk 1, Qs B84 4051, .loop J2, .blk 0, Qs B84 127] ⟨153, [(0, VL A ps.length c), (4, VL X_ s_.length cx_), (5, .own 5 0), (6, VB ce_), (7, VB nt_), (8, I6 (i_ : Int)), (9, .own 9 0), (10, VT d7_)], [(5, ⟨113, [I8 h7_.x0, I8 h7_.x1, I8 h7_.x2, I1 h7_.x3, I1 h7_.x4, I8 h7_.x5, I8 h7_.x6, I8 h7_.x7, I8 h7_.x8, I8 h7_.x9, I8 h7_.y0, I8 h7_.y1, I8 h7_.y2]⟩), (9, ⟨113, [I8 h7_.x0, I8 h7_.x1, I8 h7_.x2, I1 h7_.x3, I1 h7_.x4, I8 h7_.x5, I8 h7_.x6, I8 h7_.x7, I8 h7_.x8, I8 h7_.x9, I8 h7_.y0, I8 h7_.y1, I8 h7_.y2]⟩)]⟩ ?_
      refine X.castS ⟨153, [(0, VL A ps.length c), (4, VL X_ s_.length cx_), (5, .own 5 0), (6, VB ce_), (7, VB nt_), (8, I6 (i_ : Int)), (9, .own 9 0), (10, VT d7_)], [(5, ⟨113, [I8 f2_.x0, I8 f2_.x1, I8 f2_.x2, I1 f2_.x3, I1 f2_.x4, I8 f2_.x5, I8 f2_.x6, I8 f2_.x7, I8 f2_.x8, I8 f2_.x9, I8 f2_.y0, I8 f2_.y1, I8 f2_.y2]⟩), (9, ⟨113, [I8 h7_.x0, I8 h7_.x1, I8 h7_.x2, I1 h7_.x3, I1 h7_.x4, I8 h7_.x5, I8 h7_.x6, I8 h7_.x7, I8 h7_.x8, I8 h7_.x9, I8 h7_.y0, I8 h7_.y1, I8 h7_.y2]⟩)]⟩ (by have e_ : f2_ = h7_ := (by rw [← hf2_]; unfold firstI; rw [if_neg (by omega)]); subst e_; rfl) ?_
      exact hY9 _ (Ge.refl _ _)
     ·
      replace h29 : (i_ : Int) ≠ 0 := by simpa using h29
      refine Rn 3 (Qc B84 64807) [.blk 1, Qs B84 4051, .loop J2, .blk 0, Qs B84 127] ⟨153, [(0, VL A ps.length c), (4, VL X_ s_.length cx_), (5, .own 5 0), (6, VB ce_), (7, VB nt_), (8, I6 (i_ : Int)), (9, .own 9 0), (10, VT d7_)], [(5, ⟨113, [I8 f_.x0, I8 f_.x1, I8 f_.x2, I1 f_.x3, I1 f_.x4, I8 f_.x5, I8 f_.x6, I8 f_.x7, I8 f_.x8, I8 f_.x9, I8 f_.y0, I8 f_.y1, I8 f_.y2]⟩), (9, ⟨113, [I8 h7_.x0, I8 h7_.x1, I8 h7_.x2, I1 h7_.x3, I1 h7_.x4, I8 h7_.x5, I8 h7_.x6, I8 h7_.x7, I8 h7_.x8, I8 h7_.x9, I8 h7_.y0, I8 h7_.y1, I8 h7_.y2]⟩)]⟩ ?_
      refine X.castS ⟨153, [(0, VL A ps.length c), (4, VL X_ s_.length cx_), (5, .own 5 0), (6, VB ce_), (7, VB nt_), (8, I6 (i_ : Int)), (9, .own 9 0), (10, VT d7_)], [(5, ⟨113, [I8 f2_.x0, I8 f2_.x1, I8 f2_.x2, I1 f2_.x3, I1 f2_.x4, I8 f2_.x5, I8 f2_.x6, I8 f2_.x7, I8 f2_.x8, I8 f2_.x9, I8 f2_.y0, I8 f2_.y1, I8 f2_.y2]⟩), (9, ⟨113, [I8 h7_.x0, I8 h7_.x1, I8 h7_.x2, I1 h7_.x3, I1 h7_.x4, I8 h7_.x5, I8 h7_.x6, I8 h7_.x7, I8 h7_.x8, I8 h7_.x9, I8 h7_.y0, I8 h7_.y1, I8 h7_.y2]⟩)]⟩ (by have e_ : f2_ = f_ := (by rw [← hf2_]; unfold firstI; rw [if_pos (by omega)]; exact (hff_ (by omega)).symm); subst e_; rfl) ?_
      exact hY9 _ (Ge.refl _ _)
  ·
   replace h3 : ¬ ((i_ : Int) < ((ps.length : Nat) : Int)) := of_decide_eq_false h3
   refine Rn 18 (Qc B84 2042) [.blk 2, Qs B84 511] ⟨153, [(4, VL X_ s_.length cx_), (6, VB ce_), (7, VB nt_), (12, VT (⟨#[]⟩ : ByteArray)), (13, I6 0)], []⟩ ?_
   have hlp_ : l_.length = ps.length := by omega
   have hR_ : readI [] ps = (l_, 0) := by rw [← hr_]; exact readI_end (by omega)
   have hz_ : ¬ l_.length = 0 := by omega
   clear hr_
   refine X.loopJ (fun m s R' G' => ∃ (b_ : ByteArray) (i_ : Nat), s = ⟨153, [(4, VL X_ s_.length cx_), (6, VB ce_), (7, VB nt_), (12, VT b_), (13, I6 (i_ : Int))], []⟩ ∧ R' = [] ∧ Ge G2 w.heap.size G' ∧ (i_ ≤ s_.length ∧ (if i_ < s_.length then rowI (bytesL b_) (s_.drop i_) = rowI [] s_ else rowI [] s_ = (bytesL b_, true)) ∧ b_.size ≤ 65515 * i_) ∧ m = (s_.length - i_)) _ ⟨(⟨#[]⟩ : ByteArray), 0, rfl, rfl, Ge.refl _ _, ⟨by omega, by rw [if_pos (by omega)]; rfl, Nat.zero_le _⟩, rfl⟩ ?_
   rintro m30 s30 R30 G30 ⟨b_, i_, rfl, rfl, hG30, hF30, rfl⟩ J30 hJ30
   replace hps := hps.mono hG30.le
   replace hrx_ := hrx_.mono hG30.le
   obtain ⟨hi2_, hro_, hbz_⟩ := hF30
   refine Rn 9 (Qc B84 16337) [Qs B84 8169, .loop J30, .blk 2, Qs B84 511] ⟨153, [(4, VL X_ s_.length cx_), (6, VB ce_), (7, VB nt_), (12, VT b_), (13, I6 (i_ : Int)), (95, VB (decide ((i_ : Int) < (s_.length : Int))))], []⟩ ?_
   refine X.split 95 rfl (fun h31 => ?_) (fun h31 => ?_)
   ·
    replace h31 : (i_ : Int) < ((s_.length : Nat) : Int) := of_decide_eq_true h31
    rw [if_pos (by omega)] at hro_
    have hoki_ : okP (s_.getD i_ pk0) := hsok_ _ (getD_mem (by omega))
    have hoz_ : (s_.getD i_ pk0).2.size ≤ 65515 := hoki_.2.1
    have hoz2_ : (s_.getD (((i_ : Int)).toNat) pk0).2.size ≤ 65515 := hoki_.2.1
    have hox_ := hoki_.1.h4
    have hst_ := rowI_step (acc := bytesL b_) (l := s_) (i := i_) (by omega)
    rw [hro_, bytesL_length] at hst_
    refine Rn 10 (Qo B84 130704 2) [Qs B84 130705, Qs B84 65353, .blk 3, Qs B84 16339, .loop J30, .blk 2, Qs B84 511] ⟨153, [(4, VL X_ s_.length cx_), (6, VB ce_), (7, VB nt_), (12, VT b_), (13, I6 (i_ : Int)), (98, VL X_ s_.length cx_), (99, I6 (i_ : Int))], []⟩ ?_
    have b32 : (0 : Int) ≤ (i_ : Int) := by omega
    have b33 : (i_ : Int) < ((s_.length : Nat) : Int) := by omega
    refine Ix 192 196 14 X_ s_.length cx_ .i64 (i_ : Int) (.tmp 98) (.tmp 99) b32 b33 (fun _ _ => rowAt.so hrx_ (by omega)) ?_
    have at34 := At.pk [] hrx_ (((i_ : Int)).toNat) (by omega)
    simp only [pkC] at at34
    refine Rn 0 (Qo B84 130704 3) [Qs B84 130705, Qs B84 65353, .blk 3, Qs B84 16339, .loop J30, .blk 2, Qs B84 511] ⟨153, [(4, VL X_ s_.length cx_), (6, VB ce_), (7, VB nt_), (12, VT b_), (13, I6 (i_ : Int)), (100, .v (elt X_ (((i_ : Int)).toNat * 14)))], []⟩ ?_
    refine X.field (t := 196) (f := 0) (n := 0) (A := X_) (j := ((i_ : Int)).toNat * 14) (x := .tmp 100) (by kernel_rfl) (by kernel_rfl) (by kernel_rfl) (by kernel_rfl) ?_
    refine Rn 0 (Qo B84 130704 4) [Qs B84 130705, Qs B84 65353, .blk 3, Qs B84 16339, .loop J30, .blk 2, Qs B84 511] ⟨153, [(4, VL X_ s_.length cx_), (6, VB ce_), (7, VB nt_), (12, VT b_), (13, I6 (i_ : Int)), (101, .v (elt X_ (((i_ : Int)).toNat * 14 + 0)))], []⟩ ?_
    refine Ld 113 X_ (((i_ : Int)).toNat * 14 + 0) (.tmp 101) (.agg #[N8 ((s_.getD (((i_ : Int)).toNat) pk0).1.x0), N8 ((s_.getD (((i_ : Int)).toNat) pk0).1.x1), N8 ((s_.getD (((i_ : Int)).toNat) pk0).1.x2), N1 ((s_.getD (((i_ : Int)).toNat) pk0).1.x3), N1 ((s_.getD (((i_ : Int)).toNat) pk0).1.x4), N8 ((s_.getD (((i_ : Int)).toNat) pk0).1.x5), N8 ((s_.getD (((i_ : Int)).toNat) pk0).1.x6), N8 ((s_.getD (((i_ : Int)).toNat) pk0).1.x7), N8 ((s_.getD (((i_ : Int)).toNat) pk0).1.x8), N8 ((s_.getD (((i_ : Int)).toNat) pk0).1.x9), N8 ((s_.getD (((i_ : Int)).toNat) pk0).1.y0), N8 ((s_.getD (((i_ : Int)).toNat) pk0).1.y1), N8 ((s_.getD (((i_ : Int)).toNat) pk0).1.y2)]) [N8 ((s_.getD (((i_ : Int)).toNat) pk0).1.x0), N8 ((s_.getD (((i_ : Int)).toNat) pk0).1.x1), N8 ((s_.getD (((i_ : Int)).toNat) pk0).1.x2), N1 ((s_.getD (((i_ : Int)).toNat) pk0).1.x3), N1 ((s_.getD (((i_ : Int)).toNat) pk0).1.x4), N8 ((s_.getD (((i_ : Int)).toNat) pk0).1.x5), N8 ((s_.getD (((i_ : Int)).toNat) pk0).1.x6), N8 ((s_.getD (((i_ : Int)).toNat) pk0).1.x7), N8 ((s_.getD (((i_ : Int)).toNat) pk0).1.x8), N8 ((s_.getD (((i_ : Int)).toNat) pk0).1.x9), N8 ((s_.getD (((i_ : Int)).toNat) pk0).1.y0), N8 ((s_.getD (((i_ : Int)).toNat) pk0).1.y1), N8 ((s_.getD (((i_ : Int)).toNat) pk0).1.y2)] (at34.part 0 13) ?_
    refine Rn 0 (Qo B84 130704 5) [Qs B84 130705, Qs B84 65353, .blk 3, Qs B84 16339, .loop J30, .blk 2, Qs B84 511] ⟨153, [(4, VL X_ s_.length cx_), (6, VB ce_), (7, VB nt_), (12, VT b_), (13, I6 (i_ : Int)), (102, .v (.agg #[N8 ((s_.getD (((i_ : Int)).toNat) pk0).1.x0), N8 ((s_.getD (((i_ : Int)).toNat) pk0).1.x1), N8 ((s_.getD (((i_ : Int)).toNat) pk0).1.x2), N1 ((s_.getD (((i_ : Int)).toNat) pk0).1.x3), N1 ((s_.getD (((i_ : Int)).toNat) pk0).1.x4), N8 ((s_.getD (((i_ : Int)).toNat) pk0).1.x5), N8 ((s_.getD (((i_ : Int)).toNat) pk0).1.x6), N8 ((s_.getD (((i_ : Int)).toNat) pk0).1.x7), N8 ((s_.getD (((i_ : Int)).toNat) pk0).1.x8), N8 ((s_.getD (((i_ : Int)).toNat) pk0).1.x9), N8 ((s_.getD (((i_ : Int)).toNat) pk0).1.y0), N8 ((s_.getD (((i_ : Int)).toNat) pk0).1.y1), N8 ((s_.getD (((i_ : Int)).toNat) pk0).1.y2)]))], []⟩ ?_
    refine Cg 146 [.agg #[N8 ((s_.getD (((i_ : Int)).toNat) pk0).1.x0), N8 ((s_.getD (((i_ : Int)).toNat) pk0).1.x1), N8 ((s_.getD (((i_ : Int)).toNat) pk0).1.x2), N1 ((s_.getD (((i_ : Int)).toNat) pk0).1.x3), N1 ((s_.getD (((i_ : Int)).toNat) pk0).1.x4), N8 ((s_.getD (((i_ : Int)).toNat) pk0).1.x5), N8 ((s_.getD (((i_ : Int)).toNat) pk0).1.x6), N8 ((s_.getD (((i_ : Int)).toNat) pk0).1.x7), N8 ((s_.getD (((i_ : Int)).toNat) pk0).1.x8), N8 ((s_.getD (((i_ : Int)).toNat) pk0).1.x9), N8 ((s_.getD (((i_ : Int)).toNat) pk0).1.y0), N8 ((s_.getD (((i_ : Int)).toNat) pk0).1.y1), N8 ((s_.getD (((i_ : Int)).toNat) pk0).1.y2)]] 0 (Place_ok (s_.getD (((i_ : Int)).toNat) pk0).1 _ hoki_.1) ?_
    rintro v35 G35 rows35 hG35 ⟨rfl, rfl⟩
    replace hps := hps.mono hG35.le
    replace hrx_ := hrx_.mono hG35.le
    refine Rn 1 (Qo B84 130704 7) [Qs B84 130705, Qs B84 65353, .blk 3, Qs B84 16339, .loop J30, .blk 2, Qs B84 511] ⟨153, [(4, VL X_ s_.length cx_), (6, VB ce_), (7, VB nt_), (12, VT b_), (13, I6 (i_ : Int)), (104, I6 (IntKind.i64.wrap (((s_.getD (((i_ : Int)).toNat) pk0).1.x4 % 8192) * 8)))], []⟩ ?_
    refine Kn 104 .i64 (((s_.getD (((i_ : Int)).toNat) pk0).1.x4 % 8192) * 8) rfl (wi64 (by omega) (by omega)) ?_
    refine Rn 4 (Qo B84 130704 11) [Qs B84 130705, Qs B84 65353, .blk 3, Qs B84 16339, .loop J30, .blk 2, Qs B84 511] ⟨153, [(4, VL X_ s_.length cx_), (6, VB ce_), (7, VB nt_), (12, VT b_), (13, I6 (i_ : Int)), (108, VB ((((s_.getD (((i_ : Int)).toNat) pk0).1.x4 % 8192) * 8) != (b_.size : Int)))], []⟩ ?_
    refine X.split 108 rfl (fun h36 => ?_) (fun h36 => ?_)
    ·
     replace h36 : (((s_.getD (((i_ : Int)).toNat) pk0).1.x4 % 8192) * 8) ≠ (b_.size : Int) := by simpa using h36
     have ho_ : (rowI [] s_).2 = false := by rw [hst_, if_pos (by exact h36)]
     refine X.nilRow 390 5 1 rfl ?_
     refine Rn 29 (.ex .ret) [] ⟨153, [(2, VL none 0 0), (3, I6 12)], []⟩ ?_
     refine Dg (.inl rfl) [.slice none 0 0, N6 12] [390] rfl (((hG2.trans hG30).trans hG35)) ?_
     rw [joinI_order hR_ hz_ (by rw [← hs_]; exact ho_)]
     exact ⟨none, 0, rfl, rfl⟩
    ·
     replace h36 : (((s_.getD (((i_ : Int)).toNat) pk0).1.x4 % 8192) * 8) = (b_.size : Int) := by simpa using h36
     have hpc_ : plI (s_.getD i_ pk0) * 8 = (b_.size : Int) := h36
     rw [if_neg (fun h_ => h_ hpc_)] at hst_
     refine Rn 2 (Qo B84 130704 13) [Qs B84 130705, Qs B84 65353, .blk 3, Qs B84 16339, .loop J30, .blk 2, Qs B84 511] ⟨153, [(4, VL X_ s_.length cx_), (6, VB ce_), (7, VB nt_), (12, VT b_), (13, I6 (i_ : Int)), (108, VB false), (109, VL X_ s_.length cx_), (110, I6 (i_ : Int))], []⟩ ?_
     have b37 : (0 : Int) ≤ (i_ : Int) := by omega
     have b38 : (i_ : Int) < ((s_.length : Nat) : Int) := by omega
     refine Ix 192 196 14 X_ s_.length cx_ .i64 (i_ : Int) (.tmp 109) (.tmp 110) b37 b38 (fun _ _ => rowAt.so hrx_ (by omega)) ?_
     have at39 := At.pk [] hrx_ (((i_ : Int)).toNat) (by omega)
     simp only [pkC] at at39
     refine Rn 0 (Qo B84 130704 14) [Qs B84 130705, Qs B84 65353, .blk 3, Qs B84 16339, .loop J30, .blk 2, Qs B84 511] ⟨153, [(4, VL X_ s_.length cx_), (6, VB ce_), (7, VB nt_), (12, VT b_), (13, I6 (i_ : Int)), (108, VB false), (111, .v (elt X_ (((i_ : Int)).toNat * 14)))], []⟩ ?_
     refine X.field (t := 196) (f := 0) (n := 0) (A := X_) (j := ((i_ : Int)).toNat * 14) (x := .tmp 111) (by kernel_rfl) (by kernel_rfl) (by kernel_rfl) (by kernel_rfl) ?_
     refine Rn 0 (Qo B84 130704 15) [Qs B84 130705, Qs B84 65353, .blk 3, Qs B84 16339, .loop J30, .blk 2, Qs B84 511] ⟨153, [(4, VL X_ s_.length cx_), (6, VB ce_), (7, VB nt_), (12, VT b_), (13, I6 (i_ : Int)), (108, VB false), (112, .v (elt X_ (((i_ : Int)).toNat * 14 + 0)))], []⟩ ?_
     refine Ld 113 X_ (((i_ : Int)).toNat * 14 + 0) (.tmp 112) (.agg #[N8 ((s_.getD (((i_ : Int)).toNat) pk0).1.x0), N8 ((s_.getD (((i_ : Int)).toNat) pk0).1.x1), N8 ((s_.getD (((i_ : Int)).toNat) pk0).1.x2), N1 ((s_.getD (((i_ : Int)).toNat) pk0).1.x3), N1 ((s_.getD (((i_ : Int)).toNat) pk0).1.x4), N8 ((s_.getD (((i_ : Int)).toNat) pk0).1.x5), N8 ((s_.getD (((i_ : Int)).toNat) pk0).1.x6), N8 ((s_.getD (((i_ : Int)).toNat) pk0).1.x7), N8 ((s_.getD (((i_ : Int)).toNat) pk0).1.x8), N8 ((s_.getD (((i_ : Int)).toNat) pk0).1.x9), N8 ((s_.getD (((i_ : Int)).toNat) pk0).1.y0), N8 ((s_.getD (((i_ : Int)).toNat) pk0).1.y1), N8 ((s_.getD (((i_ : Int)).toNat) pk0).1.y2)]) [N8 ((s_.getD (((i_ : Int)).toNat) pk0).1.x0), N8 ((s_.getD (((i_ : Int)).toNat) pk0).1.x1), N8 ((s_.getD (((i_ : Int)).toNat) pk0).1.x2), N1 ((s_.getD (((i_ : Int)).toNat) pk0).1.x3), N1 ((s_.getD (((i_ : Int)).toNat) pk0).1.x4), N8 ((s_.getD (((i_ : Int)).toNat) pk0).1.x5), N8 ((s_.getD (((i_ : Int)).toNat) pk0).1.x6), N8 ((s_.getD (((i_ : Int)).toNat) pk0).1.x7), N8 ((s_.getD (((i_ : Int)).toNat) pk0).1.x8), N8 ((s_.getD (((i_ : Int)).toNat) pk0).1.x9), N8 ((s_.getD (((i_ : Int)).toNat) pk0).1.y0), N8 ((s_.getD (((i_ : Int)).toNat) pk0).1.y1), N8 ((s_.getD (((i_ : Int)).toNat) pk0).1.y2)] (at39.part 0 13) ?_
     refine Rn 0 (Qo B84 130704 16) [Qs B84 130705, Qs B84 65353, .blk 3, Qs B84 16339, .loop J30, .blk 2, Qs B84 511] ⟨153, [(4, VL X_ s_.length cx_), (6, VB ce_), (7, VB nt_), (12, VT b_), (13, I6 (i_ : Int)), (108, VB false), (113, .v (.agg #[N8 ((s_.getD (((i_ : Int)).toNat) pk0).1.x0), N8 ((s_.getD (((i_ : Int)).toNat) pk0).1.x1), N8 ((s_.getD (((i_ : Int)).toNat) pk0).1.x2), N1 ((s_.getD (((i_ : Int)).toNat) pk0).1.x3), N1 ((s_.getD (((i_ : Int)).toNat) pk0).1.x4), N8 ((s_.getD (((i_ : Int)).toNat) pk0).1.x5), N8 ((s_.getD (((i_ : Int)).toNat) pk0).1.x6), N8 ((s_.getD (((i_ : Int)).toNat) pk0).1.x7), N8 ((s_.getD (((i_ : Int)).toNat) pk0).1.x8), N8 ((s_.getD (((i_ : Int)).toNat) pk0).1.x9), N8 ((s_.getD (((i_ : Int)).toNat) pk0).1.y0), N8 ((s_.getD (((i_ : Int)).toNat) pk0).1.y1), N8 ((s_.getD (((i_ : Int)).toNat) pk0).1.y2)]))], []⟩ ?_
     refine Cg 144 [.agg #[N8 ((s_.getD (((i_ : Int)).toNat) pk0).1.x0), N8 ((s_.getD (((i_ : Int)).toNat) pk0).1.x1), N8 ((s_.getD (((i_ : Int)).toNat) pk0).1.x2), N1 ((s_.getD (((i_ : Int)).toNat) pk0).1.x3), N1 ((s_.getD (((i_ : Int)).toNat) pk0).1.x4), N8 ((s_.getD (((i_ : Int)).toNat) pk0).1.x5), N8 ((s_.getD (((i_ : Int)).toNat) pk0).1.x6), N8 ((s_.getD (((i_ : Int)).toNat) pk0).1.x7), N8 ((s_.getD (((i_ : Int)).toNat) pk0).1.x8), N8 ((s_.getD (((i_ : Int)).toNat) pk0).1.x9), N8 ((s_.getD (((i_ : Int)).toNat) pk0).1.y0), N8 ((s_.getD (((i_ : Int)).toNat) pk0).1.y1), N8 ((s_.getD (((i_ : Int)).toNat) pk0).1.y2)]] 0 (MF_ok (s_.getD (((i_ : Int)).toNat) pk0).1 _ hoki_.1) ?_
     rintro v40 G40 rows40 hG40 ⟨rfl, rfl⟩
     replace hps := hps.mono hG40.le
     replace hrx_ := hrx_.mono hG40.le
     refine Rn 4 (Qo B84 130704 21) [Qs B84 130705, Qs B84 65353, .blk 3, Qs B84 16339, .loop J30, .blk 2, Qs B84 511] ⟨153, [(4, VL X_ s_.length cx_), (6, VB ce_), (7, VB nt_), (12, VT b_), (13, I6 (i_ : Int)), (108, VB false), (114, VB ((s_.getD (((i_ : Int)).toNat) pk0).1.x4 / 8192 % 2 == 1)), (115, I6 (i_ : Int)), (118, I6 (IntKind.i64.wrap ((s_.length : Int) - 1)))], []⟩ ?_
     refine Kn 118 .i64 ((s_.length : Int) - 1) rfl (wi64 (by omega) (by omega)) ?_
     refine Rn 5 (Qc B84 130705) [Qs B84 65353, .blk 3, Qs B84 16339, .loop J30, .blk 2, Qs B84 511] ⟨153, [(4, VL X_ s_.length cx_), (6, VB ce_), (7, VB nt_), (12, VT b_), (13, I6 (i_ : Int)), (121, VB (!(((s_.getD (((i_ : Int)).toNat) pk0).1.x4 / 8192 % 2 == 1) == (decide ((i_ : Int) < (s_.length : Int) - 1)))))], []⟩ ?_
     refine X.split 121 rfl (fun h41 => ?_) (fun h41 => ?_)
     ·
      replace h41 : (((s_.getD (((i_ : Int)).toNat) pk0).1.x4 / 8192 % 2 == 1) == (decide ((i_ : Int) < ((s_.length : Nat) : Int) - 1))) = false := by first | (simpa using h41; done) | (have h_ := congrArg (fun b_ => !b_) h41; simpa only [Bool.not_not, Bool.not_true, Bool.not_false] using h_)
      replace h41 : ((s_.getD (((i_ : Int)).toNat) pk0).1.x4 / 8192 % 2 == 1) ≠ (decide ((i_ : Int) < ((s_.length : Nat) : Int) - 1)) := by simpa using h41
      have hmm_ : moreI (s_.getD i_ pk0).1 ≠ decide (i_ + 1 < s_.length) := by
       have h_ := h41
       rw [show decide (i_ + 1 < s_.length) = decide ((i_ : Int) < (s_.length : Int) - 1) from decide_eq_decide.mpr ⟨fun _ => by omega, fun _ => by omega⟩]
       unfold moreI
       intro h2_
       rw [show (((i_ : Int)).toNat) = i_ from rfl] at h_
       rw [h2_] at h_
       simp at h_
      have ho_ : (rowI [] s_).2 = false := by
       rw [hst_]
       by_cases hc_ : i_ + 1 = s_.length
       ·
        rw [if_pos hc_]
        rw [show decide (i_ + 1 < s_.length) = false from decide_eq_false (by omega)] at hmm_
        cases hm_ : moreI (s_.getD i_ pk0).1
        · exact absurd hm_ hmm_
        · rfl
       ·
        rw [show decide (i_ + 1 < s_.length) = true from decide_eq_true (by omega)] at hmm_
        rw [if_neg hc_, if_pos (by cases hm_ : moreI (s_.getD i_ pk0).1; rfl; exact absurd hm_ hmm_)]
      refine X.nilRow 390 5 1 rfl ?_
      refine Rn 14 (.ex .ret) [] ⟨153, [(2, VL none 0 0), (3, I6 12)], []⟩ ?_
      refine Dg (.inl rfl) [.slice none 0 0, N6 12] [390] rfl ((((hG2.trans hG30).trans hG35).trans hG40)) ?_
      rw [joinI_order hR_ hz_ (by rw [← hs_]; exact ho_)]
      exact ⟨none, 0, rfl, rfl⟩
     ·
      replace h41 : (((s_.getD (((i_ : Int)).toNat) pk0).1.x4 / 8192 % 2 == 1) == (decide ((i_ : Int) < ((s_.length : Nat) : Int) - 1))) = true := by first | (simpa using h41; done) | (have h_ := congrArg (fun b_ => !b_) h41; simpa only [Bool.not_not, Bool.not_true, Bool.not_false] using h_)
      replace h41 : ((s_.getD (((i_ : Int)).toNat) pk0).1.x4 / 8192 % 2 == 1) = (decide ((i_ : Int) < ((s_.length : Nat) : Int) - 1)) := by simpa using h41
      have hmm_ : moreI (s_.getD i_ pk0).1 = decide (i_ + 1 < s_.length) := by
       have h_ := h41
       rw [show decide (i_ + 1 < s_.length) = decide ((i_ : Int) < (s_.length : Int) - 1) from decide_eq_decide.mpr ⟨fun _ => by omega, fun _ => by omega⟩]
       unfold moreI
       simpa using h_
      have hnx_ : if i_ + 1 < s_.length then rowI (bytesL b_ ++ bytesL (s_.getD i_ pk0).2) (s_.drop (i_ + 1)) = rowI [] s_ else rowI [] s_ = (bytesL b_ ++ bytesL (s_.getD i_ pk0).2, true) := by
       by_cases hc_ : i_ + 1 = s_.length
       ·
        rw [if_neg (by omega), hst_, if_pos hc_, hmm_, show decide (i_ + 1 < s_.length) = false from decide_eq_false (by omega)]
        rfl
       · rw [if_pos (by omega), hst_, if_neg hc_, if_neg (by rw [hmm_, show decide (i_ + 1 < s_.length) = true from decide_eq_true (by omega)]; decide)]
      refine Rn 7 (Qo B84 65353 3) [.blk 3, Qs B84 16339, .loop J30, .blk 2, Qs B84 511] ⟨153, [(4, VL X_ s_.length cx_), (6, VB ce_), (7, VB nt_), (12, VT b_), (13, I6 (i_ : Int)), (122, VT b_), (123, VL X_ s_.length cx_), (124, I6 (i_ : Int))], []⟩ ?_
      have b42 : (0 : Int) ≤ (i_ : Int) := by omega
      have b43 : (i_ : Int) < ((s_.length : Nat) : Int) := by omega
      refine Ix 192 196 14 X_ s_.length cx_ .i64 (i_ : Int) (.tmp 123) (.tmp 124) b42 b43 (fun _ _ => rowAt.so hrx_ (by omega)) ?_
      have at44 := At.pk [] hrx_ (((i_ : Int)).toNat) (by omega)
      simp only [pkC] at at44
      refine Rn 0 (Qo B84 65353 4) [.blk 3, Qs B84 16339, .loop J30, .blk 2, Qs B84 511] ⟨153, [(4, VL X_ s_.length cx_), (6, VB ce_), (7, VB nt_), (12, VT b_), (13, I6 (i_ : Int)), (122, VT b_), (125, .v (elt X_ (((i_ : Int)).toNat * 14)))], []⟩ ?_
      refine X.field (t := 196) (f := 1) (n := 13) (A := X_) (j := ((i_ : Int)).toNat * 14) (x := .tmp 125) (by kernel_rfl) (by kernel_rfl) (by kernel_rfl) (by kernel_rfl) ?_
      refine Rn 0 (Qo B84 65353 5) [.blk 3, Qs B84 16339, .loop J30, .blk 2, Qs B84 511] ⟨153, [(4, VL X_ s_.length cx_), (6, VB ce_), (7, VB nt_), (12, VT b_), (13, I6 (i_ : Int)), (122, VT b_), (126, .v (elt X_ (((i_ : Int)).toNat * 14 + 13)))], []⟩ ?_
      refine Ld 9 X_ (((i_ : Int)).toNat * 14 + 13) (.tmp 126) (.string ((s_.getD (((i_ : Int)).toNat) pk0).2)) [.string ((s_.getD (((i_ : Int)).toNat) pk0).2)] (at44.part 13 1) ?_
      refine Rn 0 (Qo B84 65353 6) [.blk 3, Qs B84 16339, .loop J30, .blk 2, Qs B84 511] ⟨153, [(4, VL X_ s_.length cx_), (6, VB ce_), (7, VB nt_), (12, VT b_), (13, I6 (i_ : Int)), (122, VT b_), (127, VT ((s_.getD (((i_ : Int)).toNat) pk0).2))], []⟩ ?_
      refine X.strAdd (t := 9) (t' := 9) (x := .tmp 122) (y := .tmp 127) (a := b_) (b := (s_.getD (((i_ : Int)).toNat) pk0).2) (by kernel_rfl) (by kernel_rfl) (by kernel_rfl) (by kernel_rfl) (by omega) ?_
      refine Rn 7 (Qo B84 16339 2) [.loop J30, .blk 2, Qs B84 511] ⟨153, [(4, VL X_ s_.length cx_), (6, VB ce_), (7, VB nt_), (12, VT (b_ ++ ((s_.getD (((i_ : Int)).toNat) pk0).2))), (13, I6 (i_ : Int)), (97, I6 (IntKind.i64.wrap ((i_ : Int) + 1)))], []⟩ ?_
      refine Kn 97 .i64 ((i_ : Int) + 1) rfl (wi64 (by omega) (by omega)) ?_
      refine Rn 2 (.ex .normal) [.loop J30, .blk 2, Qs B84 511] ⟨153, [(4, VL X_ s_.length cx_), (6, VB ce_), (7, VB nt_), (12, VT (b_ ++ ((s_.getD (((i_ : Int)).toNat) pk0).2))), (13, I6 ((i_ : Int) + 1))], []⟩ ?_
      exact X.again (hJ30 _ _ _ _ ⟨(b_ ++ (s_.getD i_ pk0).2), (i_ + 1), rfl, rfl, ((hG30.trans hG35).trans hG40), ⟨by omega, by rw [bytesL_app]; exact hnx_, by rw [ByteArray.size_append]; omega⟩, rfl⟩ (by omega))
   ·
    replace h31 : ¬ ((i_ : Int) < ((s_.length : Nat) : Int)) := of_decide_eq_false h31
    rw [if_neg (by omega)] at hro_
    refine Rn 11 (Qo B84 2044 2) [Qs B84 2045, Qs B84 1023] ⟨153, [(4, VL X_ s_.length cx_), (6, VB ce_), (7, VB nt_), (12, VT b_), (130, VB ce_)], []⟩ ?_
    refine X.split 130 rfl (fun h45 => ?_) (fun h45 => ?_)
    ·
     have ho_ : ¬ (rowI [] s_).2 = false := by rw [hro_]; simp
     have hc3_ : hadI s_ 3 = ce_ := by rw [hs_, hadI_perm (sortI_perm l_), hce_]
     have hc0_ : hadI s_ 0 = nt_ := by rw [hs_, hadI_perm (sortI_perm l_), hnt_]
     have hce2_ := h45
     refine Rn 4 (Qc B84 2045) [Qs B84 1023] ⟨153, [(4, VL X_ s_.length cx_), (6, VB ce_), (12, VT b_), (132, VB nt_)], []⟩ ?_
     refine X.split 132 rfl (fun h46 => ?_) (fun h46 => ?_)
     ·
      have hk_ : fitJ s_ = false := by unfold fitJ; rw [hc3_, hc0_, hce2_, h46]; decide
      refine X.nilRow 390 5 1 rfl ?_
      refine Rn 9 (.ex .ret) [] ⟨153, [(2, VL none 0 0), (3, I6 7)], []⟩ ?_
      refine Dg (.inl rfl) [.slice none 0 0, N6 7] [390] rfl ((hG2.trans hG30)) ?_
      rw [joinI_kind hR_ hz_ (by rw [← hs_]; exact ho_) (by rw [← hs_]; exact hk_)]
      exact ⟨none, 0, rfl, rfl⟩
     ·
      have hk_ : ¬ fitJ s_ = false := by unfold fitJ; rw [hc3_, hc0_, hce2_, h46]; decide
      have hk0_ : okP (s_.getD 0 pk0) := hsok_ _ (getD_mem (by omega))
      have hk4_ := hk0_.1.h4
      have hk2_ := hk0_.1.h0
      refine Rn 6 (Qo B84 2046 1) [Qs B84 2047] ⟨153, [(6, VB ce_), (12, VT b_), (133, VL X_ s_.length cx_)], []⟩ ?_
      have b47 : (0 : Int) ≤ 0 := by omega
      have b48 : 0 < ((s_.length : Nat) : Int) := by omega
      refine Ix 192 196 14 X_ s_.length cx_ .i64 0 (.tmp 133) (.const (N6 0)) b47 b48 (fun _ _ => rowAt.so hrx_ (by omega)) ?_
      have at49 := At.pk [] hrx_ 0 (by omega)
      simp only [pkC] at at49
      refine Rn 0 (Qo B84 2046 2) [Qs B84 2047] ⟨153, [(6, VB ce_), (12, VT b_), (134, .v (elt X_ (0 * 14)))], []⟩ ?_
      refine X.field (t := 196) (f := 0) (n := 0) (A := X_) (j := 0 * 14) (x := .tmp 134) (by kernel_rfl) (by kernel_rfl) (by kernel_rfl) (by kernel_rfl) ?_
      refine Rn 0 (Qo B84 2046 3) [Qs B84 2047] ⟨153, [(6, VB ce_), (12, VT b_), (135, .v (elt X_ (0 * 14 + 0)))], []⟩ ?_
      refine Ld 113 X_ (0 * 14 + 0) (.tmp 135) (.agg #[N8 ((s_.getD 0 pk0).1.x0), N8 ((s_.getD 0 pk0).1.x1), N8 ((s_.getD 0 pk0).1.x2), N1 ((s_.getD 0 pk0).1.x3), N1 ((s_.getD 0 pk0).1.x4), N8 ((s_.getD 0 pk0).1.x5), N8 ((s_.getD 0 pk0).1.x6), N8 ((s_.getD 0 pk0).1.x7), N8 ((s_.getD 0 pk0).1.x8), N8 ((s_.getD 0 pk0).1.x9), N8 ((s_.getD 0 pk0).1.y0), N8 ((s_.getD 0 pk0).1.y1), N8 ((s_.getD 0 pk0).1.y2)]) [N8 ((s_.getD 0 pk0).1.x0), N8 ((s_.getD 0 pk0).1.x1), N8 ((s_.getD 0 pk0).1.x2), N1 ((s_.getD 0 pk0).1.x3), N1 ((s_.getD 0 pk0).1.x4), N8 ((s_.getD 0 pk0).1.x5), N8 ((s_.getD 0 pk0).1.x6), N8 ((s_.getD 0 pk0).1.x7), N8 ((s_.getD 0 pk0).1.x8), N8 ((s_.getD 0 pk0).1.x9), N8 ((s_.getD 0 pk0).1.y0), N8 ((s_.getD 0 pk0).1.y1), N8 ((s_.getD 0 pk0).1.y2)] (at49.part 0 13) ?_
      refine Rn 9 (Qo B84 4094 3) [Qs B84 4095] ⟨153, [(6, VB ce_), (12, VT b_), (14, .own 14 0), (139, I1 (IntKind.u16.wrap (Int.tdiv ((s_.getD 0 pk0).1.x4) 16384)))], [(14, ⟨113, [I8 ((s_.getD 0 pk0).1.x0), I8 ((s_.getD 0 pk0).1.x1), I8 ((s_.getD 0 pk0).1.x2), I1 ((s_.getD 0 pk0).1.x3), I1 ((s_.getD 0 pk0).1.x4), I8 ((s_.getD 0 pk0).1.x5), I8 ((s_.getD 0 pk0).1.x6), I8 ((s_.getD 0 pk0).1.x7), I8 ((s_.getD 0 pk0).1.x8), I8 ((s_.getD 0 pk0).1.x9), I8 ((s_.getD 0 pk0).1.y0), I8 ((s_.getD 0 pk0).1.y1), I8 ((s_.getD 0 pk0).1.y2)]⟩)]⟩ ?_
      refine Kn 139 .u16 (((s_.getD 0 pk0).1.x4) / 16384) rfl (wdiv_u16 (by omega) (by omega) (by omega)) ?_
      refine Rn 1 (Qo B84 4094 4) [Qs B84 4095] ⟨153, [(6, VB ce_), (12, VT b_), (14, .own 14 0), (140, I1 (Int.tmod (((s_.getD 0 pk0).1.x4) / 16384) 2))], [(14, ⟨113, [I8 ((s_.getD 0 pk0).1.x0), I8 ((s_.getD 0 pk0).1.x1), I8 ((s_.getD 0 pk0).1.x2), I1 ((s_.getD 0 pk0).1.x3), I1 ((s_.getD 0 pk0).1.x4), I8 ((s_.getD 0 pk0).1.x5), I8 ((s_.getD 0 pk0).1.x6), I8 ((s_.getD 0 pk0).1.x7), I8 ((s_.getD 0 pk0).1.x8), I8 ((s_.getD 0 pk0).1.x9), I8 ((s_.getD 0 pk0).1.y0), I8 ((s_.getD 0 pk0).1.y1), I8 ((s_.getD 0 pk0).1.y2)]⟩)]⟩ ?_
      refine Kn 140 .u16 ((((s_.getD 0 pk0).1.x4) / 16384) % 2) rfl (Int.tmod_eq_emod_of_nonneg (by omega)) ?_
      refine Rn 1 (Qo B84 4094 5) [Qs B84 4095] ⟨153, [(6, VB ce_), (12, VT b_), (14, .own 14 0), (141, I1 (IntKind.u16.wrap (((((s_.getD 0 pk0).1.x4) / 16384) % 2) * 16384)))], [(14, ⟨113, [I8 ((s_.getD 0 pk0).1.x0), I8 ((s_.getD 0 pk0).1.x1), I8 ((s_.getD 0 pk0).1.x2), I1 ((s_.getD 0 pk0).1.x3), I1 ((s_.getD 0 pk0).1.x4), I8 ((s_.getD 0 pk0).1.x5), I8 ((s_.getD 0 pk0).1.x6), I8 ((s_.getD 0 pk0).1.x7), I8 ((s_.getD 0 pk0).1.x8), I8 ((s_.getD 0 pk0).1.x9), I8 ((s_.getD 0 pk0).1.y0), I8 ((s_.getD 0 pk0).1.y1), I8 ((s_.getD 0 pk0).1.y2)]⟩)]⟩ ?_
      refine Kn 141 .u16 (((((s_.getD 0 pk0).1.x4) / 16384) % 2) * 16384) rfl (wu16 (by omega) (by omega)) ?_
      refine Rn 10 (Qc B84 16381) [Qs B84 8191] ⟨153, [(12, VT b_), (14, .own 14 0), (143, VB ce_)], [(14, ⟨113, [I8 ((s_.getD 0 pk0).1.x0), I8 ((s_.getD 0 pk0).1.x1), I8 ((s_.getD 0 pk0).1.x2), I1 ((s_.getD 0 pk0).1.x3), I1 (((((s_.getD 0 pk0).1.x4) / 16384) % 2) * 16384), I8 ((s_.getD 0 pk0).1.x5), I8 ((s_.getD 0 pk0).1.x6), I8 ((s_.getD 0 pk0).1.x7), I8 ((s_.getD 0 pk0).1.x8), I8 ((s_.getD 0 pk0).1.x9), I8 ((s_.getD 0 pk0).1.y0), I8 ((s_.getD 0 pk0).1.y1), I8 ((s_.getD 0 pk0).1.y2)]⟩)]⟩ ?_
      refine X.isTrue 143 rfl (hce2_) ?_
      refine Rn 4 (Qo B84 32762 2) [Qs B84 8191] ⟨153, [(12, VT b_), (14, .own 14 0), (145, I8 ((s_.getD 0 pk0).1.x0))], [(14, ⟨113, [I8 ((s_.getD 0 pk0).1.x0), I8 ((s_.getD 0 pk0).1.x1), I8 ((s_.getD 0 pk0).1.x2), I1 ((s_.getD 0 pk0).1.x3), I1 (((((s_.getD 0 pk0).1.x4) / 16384) % 2) * 16384), I8 ((s_.getD 0 pk0).1.x5), I8 ((s_.getD 0 pk0).1.x6), I8 ((s_.getD 0 pk0).1.x7), I8 ((s_.getD 0 pk0).1.x8), I8 ((s_.getD 0 pk0).1.x9), I8 ((s_.getD 0 pk0).1.y0), I8 ((s_.getD 0 pk0).1.y1), I8 ((s_.getD 0 pk0).1.y2)]⟩)]⟩ ?_
      refine Cg 147 [N8 ((s_.getD 0 pk0).1.x0), N6 3] 0 (RPut_ok ((s_.getD 0 pk0).1.x0) 3 _ hk2_ (by decide)) ?_
      rintro v50 G50 rows50 hG50 ⟨rfl, rfl⟩
      replace hps := hps.mono hG50.le
      replace hrx_ := hrx_.mono hG50.le
      refine Rn 8 (Qo B84 16382 2) [Qs B84 16383] ⟨153, [(148, .v (.agg #[N8 (putT ((s_.getD 0 pk0).1.x0) 3), N8 ((s_.getD 0 pk0).1.x1), N8 ((s_.getD 0 pk0).1.x2), N1 ((s_.getD 0 pk0).1.x3), N1 (((((s_.getD 0 pk0).1.x4) / 16384) % 2) * 16384), N8 ((s_.getD 0 pk0).1.x5), N8 ((s_.getD 0 pk0).1.x6), N8 ((s_.getD 0 pk0).1.x7), N8 ((s_.getD 0 pk0).1.x8), N8 ((s_.getD 0 pk0).1.x9), N8 ((s_.getD 0 pk0).1.y0), N8 ((s_.getD 0 pk0).1.y1), N8 ((s_.getD 0 pk0).1.y2)])), (149, VT b_)], []⟩ ?_
      refine Cg 79 [.agg #[N8 (putT ((s_.getD 0 pk0).1.x0) 3), N8 ((s_.getD 0 pk0).1.x1), N8 ((s_.getD 0 pk0).1.x2), N1 ((s_.getD 0 pk0).1.x3), N1 (((((s_.getD 0 pk0).1.x4) / 16384) % 2) * 16384), N8 ((s_.getD 0 pk0).1.x5), N8 ((s_.getD 0 pk0).1.x6), N8 ((s_.getD 0 pk0).1.x7), N8 ((s_.getD 0 pk0).1.x8), N8 ((s_.getD 0 pk0).1.x9), N8 ((s_.getD 0 pk0).1.y0), N8 ((s_.getD 0 pk0).1.y1), N8 ((s_.getD 0 pk0).1.y2)], .string b_] 770 (REncI_ok (tosI (frI (s_.getD 0 pk0).1 (((((s_.getD 0 pk0).1.x4) / 16384) % 2) * 16384)) (putT ((s_.getD 0 pk0).1.x0) 3)) b_ _ (tosI_ok (frI_ok hk0_.1 (by omega)) (putT_range hk2_ (by omega))) (by simp only [maxLen]; omega)) ?_
      rintro v51 G51 rows51 hG51 ⟨A51, c51, rfl, rfl⟩
      replace hps := hps.mono hG51.le
      replace hrx_ := hrx_.mono hG51.le
      refine X.asR (R' := [(770, RR 5 1 A51 ((encI (tosI (frI (s_.getD 0 pk0).1 (((((s_.getD 0 pk0).1.x4) / 16384) % 2) * 16384)) (putT ((s_.getD 0 pk0).1.x0) 3)) b_).1.length) c51 (((encI (tosI (frI (s_.getD 0 pk0).1 (((((s_.getD 0 pk0).1.x4) / 16384) % 2) * 16384)) (putT ((s_.getD 0 pk0).1.x0) 3)) b_).1).map (Value.int .u8)))]) rfl ?_
      refine Rn 7 (.ex .ret) [] ⟨153, [(2, VL A51 ((encI (tosI (frI (s_.getD 0 pk0).1 (((((s_.getD 0 pk0).1.x4) / 16384) % 2) * 16384)) (putT ((s_.getD 0 pk0).1.x0) 3)) b_).1.length) c51), (3, I6 ((encI (tosI (frI (s_.getD 0 pk0).1 (((((s_.getD 0 pk0).1.x4) / 16384) % 2) * 16384)) (putT ((s_.getD 0 pk0).1.x0) 3)) b_).2))], []⟩ ?_
      refine Dg (.inl rfl) [.slice A51 ((encI (tosI (frI (s_.getD 0 pk0).1 (((((s_.getD 0 pk0).1.x4) / 16384) % 2) * 16384)) (putT ((s_.getD 0 pk0).1.x0) 3)) b_).1.length) c51, N6 ((encI (tosI (frI (s_.getD 0 pk0).1 (((((s_.getD 0 pk0).1.x4) / 16384) % 2) * 16384)) (putT ((s_.getD 0 pk0).1.x0) 3)) b_).2)] [770] rfl ((((hG2.trans hG30).trans hG50).trans hG51)) ?_
      have hJ_ : joinI ps = encI (tosI (frI (s_.getD 0 pk0).1 (((((s_.getD 0 pk0).1.x4) / 16384) % 2) * 16384)) (putT ((s_.getD 0 pk0).1.x0) 3)) b_ := by
       rw [joinI_fine hR_ hz_ (by rw [← hs_]; exact ho_) (by rw [← hs_]; exact hk_), ← hs_, hro_]
       have hh_ : headJ s_ = (tosI (frI (s_.getD 0 pk0).1 (((((s_.getD 0 pk0).1.x4) / 16384) % 2) * 16384)) (putT ((s_.getD 0 pk0).1.x0) 3)) := by
        unfold headJ codeJ
        rw [hc3_, hce2_]
        rfl
       rw [hh_]
       show encI _ (strOf (bytesL b_)) = _
       rw [strOf_bytesL]
      rw [hJ_]
      exact ⟨_, _, rfl, rfl⟩
    ·
     have ho_ : ¬ (rowI [] s_).2 = false := by rw [hro_]; simp
     have hc3_ : hadI s_ 3 = ce_ := by rw [hs_, hadI_perm (sortI_perm l_), hce_]
     have hc0_ : hadI s_ 0 = nt_ := by rw [hs_, hadI_perm (sortI_perm l_), hnt_]
     have hce2_ := h45
     have hk_ : ¬ fitJ s_ = false := by unfold fitJ; rw [hc3_, hce2_]; simp
     have hk0_ : okP (s_.getD 0 pk0) := hsok_ _ (getD_mem (by omega))
     have hk4_ := hk0_.1.h4
     have hk2_ := hk0_.1.h0
     refine Rn 10 (Qo B84 2046 1) [Qs B84 2047] ⟨153, [(6, VB ce_), (12, VT b_), (133, VL X_ s_.length cx_)], []⟩ ?_
     have b52 : (0 : Int) ≤ 0 := by omega
     have b53 : 0 < ((s_.length : Nat) : Int) := by omega
     refine Ix 192 196 14 X_ s_.length cx_ .i64 0 (.tmp 133) (.const (N6 0)) b52 b53 (fun _ _ => rowAt.so hrx_ (by omega)) ?_
     have at54 := At.pk [] hrx_ 0 (by omega)
     simp only [pkC] at at54
     refine Rn 0 (Qo B84 2046 2) [Qs B84 2047] ⟨153, [(6, VB ce_), (12, VT b_), (134, .v (elt X_ (0 * 14)))], []⟩ ?_
     refine X.field (t := 196) (f := 0) (n := 0) (A := X_) (j := 0 * 14) (x := .tmp 134) (by kernel_rfl) (by kernel_rfl) (by kernel_rfl) (by kernel_rfl) ?_
     refine Rn 0 (Qo B84 2046 3) [Qs B84 2047] ⟨153, [(6, VB ce_), (12, VT b_), (135, .v (elt X_ (0 * 14 + 0)))], []⟩ ?_
     refine Ld 113 X_ (0 * 14 + 0) (.tmp 135) (.agg #[N8 ((s_.getD 0 pk0).1.x0), N8 ((s_.getD 0 pk0).1.x1), N8 ((s_.getD 0 pk0).1.x2), N1 ((s_.getD 0 pk0).1.x3), N1 ((s_.getD 0 pk0).1.x4), N8 ((s_.getD 0 pk0).1.x5), N8 ((s_.getD 0 pk0).1.x6), N8 ((s_.getD 0 pk0).1.x7), N8 ((s_.getD 0 pk0).1.x8), N8 ((s_.getD 0 pk0).1.x9), N8 ((s_.getD 0 pk0).1.y0), N8 ((s_.getD 0 pk0).1.y1), N8 ((s_.getD 0 pk0).1.y2)]) [N8 ((s_.getD 0 pk0).1.x0), N8 ((s_.getD 0 pk0).1.x1), N8 ((s_.getD 0 pk0).1.x2), N1 ((s_.getD 0 pk0).1.x3), N1 ((s_.getD 0 pk0).1.x4), N8 ((s_.getD 0 pk0).1.x5), N8 ((s_.getD 0 pk0).1.x6), N8 ((s_.getD 0 pk0).1.x7), N8 ((s_.getD 0 pk0).1.x8), N8 ((s_.getD 0 pk0).1.x9), N8 ((s_.getD 0 pk0).1.y0), N8 ((s_.getD 0 pk0).1.y1), N8 ((s_.getD 0 pk0).1.y2)] (at54.part 0 13) ?_
     refine Rn 9 (Qo B84 4094 3) [Qs B84 4095] ⟨153, [(6, VB ce_), (12, VT b_), (14, .own 14 0), (139, I1 (IntKind.u16.wrap (Int.tdiv ((s_.getD 0 pk0).1.x4) 16384)))], [(14, ⟨113, [I8 ((s_.getD 0 pk0).1.x0), I8 ((s_.getD 0 pk0).1.x1), I8 ((s_.getD 0 pk0).1.x2), I1 ((s_.getD 0 pk0).1.x3), I1 ((s_.getD 0 pk0).1.x4), I8 ((s_.getD 0 pk0).1.x5), I8 ((s_.getD 0 pk0).1.x6), I8 ((s_.getD 0 pk0).1.x7), I8 ((s_.getD 0 pk0).1.x8), I8 ((s_.getD 0 pk0).1.x9), I8 ((s_.getD 0 pk0).1.y0), I8 ((s_.getD 0 pk0).1.y1), I8 ((s_.getD 0 pk0).1.y2)]⟩)]⟩ ?_
     refine Kn 139 .u16 (((s_.getD 0 pk0).1.x4) / 16384) rfl (wdiv_u16 (by omega) (by omega) (by omega)) ?_
     refine Rn 1 (Qo B84 4094 4) [Qs B84 4095] ⟨153, [(6, VB ce_), (12, VT b_), (14, .own 14 0), (140, I1 (Int.tmod (((s_.getD 0 pk0).1.x4) / 16384) 2))], [(14, ⟨113, [I8 ((s_.getD 0 pk0).1.x0), I8 ((s_.getD 0 pk0).1.x1), I8 ((s_.getD 0 pk0).1.x2), I1 ((s_.getD 0 pk0).1.x3), I1 ((s_.getD 0 pk0).1.x4), I8 ((s_.getD 0 pk0).1.x5), I8 ((s_.getD 0 pk0).1.x6), I8 ((s_.getD 0 pk0).1.x7), I8 ((s_.getD 0 pk0).1.x8), I8 ((s_.getD 0 pk0).1.x9), I8 ((s_.getD 0 pk0).1.y0), I8 ((s_.getD 0 pk0).1.y1), I8 ((s_.getD 0 pk0).1.y2)]⟩)]⟩ ?_
     refine Kn 140 .u16 ((((s_.getD 0 pk0).1.x4) / 16384) % 2) rfl (Int.tmod_eq_emod_of_nonneg (by omega)) ?_
     refine Rn 1 (Qo B84 4094 5) [Qs B84 4095] ⟨153, [(6, VB ce_), (12, VT b_), (14, .own 14 0), (141, I1 (IntKind.u16.wrap (((((s_.getD 0 pk0).1.x4) / 16384) % 2) * 16384)))], [(14, ⟨113, [I8 ((s_.getD 0 pk0).1.x0), I8 ((s_.getD 0 pk0).1.x1), I8 ((s_.getD 0 pk0).1.x2), I1 ((s_.getD 0 pk0).1.x3), I1 ((s_.getD 0 pk0).1.x4), I8 ((s_.getD 0 pk0).1.x5), I8 ((s_.getD 0 pk0).1.x6), I8 ((s_.getD 0 pk0).1.x7), I8 ((s_.getD 0 pk0).1.x8), I8 ((s_.getD 0 pk0).1.x9), I8 ((s_.getD 0 pk0).1.y0), I8 ((s_.getD 0 pk0).1.y1), I8 ((s_.getD 0 pk0).1.y2)]⟩)]⟩ ?_
     refine Kn 141 .u16 (((((s_.getD 0 pk0).1.x4) / 16384) % 2) * 16384) rfl (wu16 (by omega) (by omega)) ?_
     refine Rn 10 (Qc B84 16381) [Qs B84 8191] ⟨153, [(12, VT b_), (14, .own 14 0), (143, VB ce_)], [(14, ⟨113, [I8 ((s_.getD 0 pk0).1.x0), I8 ((s_.getD 0 pk0).1.x1), I8 ((s_.getD 0 pk0).1.x2), I1 ((s_.getD 0 pk0).1.x3), I1 (((((s_.getD 0 pk0).1.x4) / 16384) % 2) * 16384), I8 ((s_.getD 0 pk0).1.x5), I8 ((s_.getD 0 pk0).1.x6), I8 ((s_.getD 0 pk0).1.x7), I8 ((s_.getD 0 pk0).1.x8), I8 ((s_.getD 0 pk0).1.x9), I8 ((s_.getD 0 pk0).1.y0), I8 ((s_.getD 0 pk0).1.y1), I8 ((s_.getD 0 pk0).1.y2)]⟩)]⟩ ?_
     refine X.isFalse 143 rfl (hce2_) ?_
     refine Rn 7 (Qo B84 16382 2) [Qs B84 16383] ⟨153, [(148, .v (.agg #[N8 ((s_.getD 0 pk0).1.x0), N8 ((s_.getD 0 pk0).1.x1), N8 ((s_.getD 0 pk0).1.x2), N1 ((s_.getD 0 pk0).1.x3), N1 (((((s_.getD 0 pk0).1.x4) / 16384) % 2) * 16384), N8 ((s_.getD 0 pk0).1.x5), N8 ((s_.getD 0 pk0).1.x6), N8 ((s_.getD 0 pk0).1.x7), N8 ((s_.getD 0 pk0).1.x8), N8 ((s_.getD 0 pk0).1.x9), N8 ((s_.getD 0 pk0).1.y0), N8 ((s_.getD 0 pk0).1.y1), N8 ((s_.getD 0 pk0).1.y2)])), (149, VT b_)], []⟩ ?_
     refine Cg 79 [.agg #[N8 ((s_.getD 0 pk0).1.x0), N8 ((s_.getD 0 pk0).1.x1), N8 ((s_.getD 0 pk0).1.x2), N1 ((s_.getD 0 pk0).1.x3), N1 (((((s_.getD 0 pk0).1.x4) / 16384) % 2) * 16384), N8 ((s_.getD 0 pk0).1.x5), N8 ((s_.getD 0 pk0).1.x6), N8 ((s_.getD 0 pk0).1.x7), N8 ((s_.getD 0 pk0).1.x8), N8 ((s_.getD 0 pk0).1.x9), N8 ((s_.getD 0 pk0).1.y0), N8 ((s_.getD 0 pk0).1.y1), N8 ((s_.getD 0 pk0).1.y2)], .string b_] 770 (REncI_ok (frI (s_.getD 0 pk0).1 (((((s_.getD 0 pk0).1.x4) / 16384) % 2) * 16384)) b_ _ (frI_ok hk0_.1 (by omega)) (by simp only [maxLen]; omega)) ?_
     rintro v55 G55 rows55 hG55 ⟨A55, c55, rfl, rfl⟩
     replace hps := hps.mono hG55.le
     replace hrx_ := hrx_.mono hG55.le
     refine X.asR (R' := [(770, RR 5 1 A55 ((encI (frI (s_.getD 0 pk0).1 (((((s_.getD 0 pk0).1.x4) / 16384) % 2) * 16384)) b_).1.length) c55 (((encI (frI (s_.getD 0 pk0).1 (((((s_.getD 0 pk0).1.x4) / 16384) % 2) * 16384)) b_).1).map (Value.int .u8)))]) rfl ?_
     refine Rn 7 (.ex .ret) [] ⟨153, [(2, VL A55 ((encI (frI (s_.getD 0 pk0).1 (((((s_.getD 0 pk0).1.x4) / 16384) % 2) * 16384)) b_).1.length) c55), (3, I6 ((encI (frI (s_.getD 0 pk0).1 (((((s_.getD 0 pk0).1.x4) / 16384) % 2) * 16384)) b_).2))], []⟩ ?_
     refine Dg (.inl rfl) [.slice A55 ((encI (frI (s_.getD 0 pk0).1 (((((s_.getD 0 pk0).1.x4) / 16384) % 2) * 16384)) b_).1.length) c55, N6 ((encI (frI (s_.getD 0 pk0).1 (((((s_.getD 0 pk0).1.x4) / 16384) % 2) * 16384)) b_).2)] [770] rfl (((hG2.trans hG30).trans hG55)) ?_
     have hJ_ : joinI ps = encI (frI (s_.getD 0 pk0).1 (((((s_.getD 0 pk0).1.x4) / 16384) % 2) * 16384)) b_ := by
      rw [joinI_fine hR_ hz_ (by rw [← hs_]; exact ho_) (by rw [← hs_]; exact hk_), ← hs_, hro_]
      have hh_ : headJ s_ = (frI (s_.getD 0 pk0).1 (((((s_.getD 0 pk0).1.x4) / 16384) % 2) * 16384)) := by
       unfold headJ codeJ
       rw [hc3_, hce2_]
       rw [if_neg (by decide), putT_same]
       rfl
      rw [hh_]
      show encI _ (strOf (bytesL b_)) = _
      rw [strOf_bytesL]
     rw [hJ_]
     exact ⟨_, _, rfl, rfl⟩
end Go.Proofs.YtjgpdbkkpomhjaaX
