/- ecn, leatref09, places. Walked; printed by a small program of this session. Conditions: none. -/
import Derived.Test.YtjgpdbkkpomhjaaProg
import Derived.KernelRfl
import Derived.Test.YtjgpdbkkpomhjaaYJ7
namespace Go.Proofs.YtjgpdbkkpomhjaaX
open Go.RowKit
open Go.Proofs.YtjgpdbkkpomhjaaW.PrintLast
set_option linter.unusedVariables false
set_option linter.unusedSimpArgs false
set_option maxRecDepth 100000
/-- leat/ecn.Of -/
noncomputable def B149 : Code := bodyOf Try.f149
set_option maxHeartbeats 1000000 in
theorem Of_ok (x : Int) (G : Mem) (hx : 0 ≤ x ∧ x ≤ 255) : CallsG Try.prog 149 [.int .u8 x] G (fun _ v rows => v = .int .i64 (x % 4) ∧ rows = []) := by
 refine CallsG.enter Try.func149 rfl rfl ?_
 intro w
 refine Rn 14 (.ex .ret) [] ⟨6, [(2, I6 (IntKind.i64.wrap (band .u8 x 3)))], []⟩ ?_
 refine Dg (.inl rfl) [N6 (IntKind.i64.wrap (band .u8 x 3))] [] rfl (Ge.refl _ _) ?_
 rw [and3 hx, wi64 (by omega) (by omega)]
 exact ⟨rfl, rfl⟩
/-- leat/ecn.is -/
noncomputable def B166 : Code := bodyOf Try.f166
set_option maxHeartbeats 1000000 in
theorem ecnIs_ok (c : Int) (G : Mem) : CallsG Try.prog 166 [.int .i64 c] G (fun _ v rows => v = .bool (decide (0 ≤ c ∧ c ≤ 3)) ∧ rows = []) := by
 refine CallsG.enter Try.func166 rfl rfl ?_
 intro w
 refine Rn 10 (Qo B166 6 3) [Qs B166 7] ⟨9, [(0, I6 c), (2, VB false), (5, VB (decide (c ≥ 0)))], []⟩ ?_
 refine X.split 5 rfl (fun h1 => ?_) (fun h1 => ?_)
 ·
  replace h1 : c ≥ 0 := of_decide_eq_true h1
  refine Rn 7 (.ex .ret) [] ⟨9, [(2, VB (decide (c ≤ 3)))], []⟩ ?_
  refine Dg (.inl rfl) [.bool (decide (c ≤ 3))] [] rfl (Ge.refl _ _) ?_
  exact ⟨congrArg Value.bool (by by_cases h1_ : 0 ≤ c <;> by_cases h2_ : c ≤ 3 <;> simp [h1_, h2_] <;> omega), rfl⟩
 ·
  replace h1 : ¬ (c ≥ 0) := of_decide_eq_false h1
  refine Rn 7 (.ex .ret) [] ⟨9, [(2, VB false)], []⟩ ?_
  refine Dg (.inl rfl) [.bool false] [] rfl (Ge.refl _ _) ?_
  exact ⟨congrArg Value.bool (by by_cases h1_ : 0 ≤ c <;> by_cases h2_ : c ≤ 3 <;> simp [h1_, h2_] <;> omega), rfl⟩
/-- leat/leatref09.Is -/
noncomputable def B167 : Code := bodyOf Try.f167
set_option maxHeartbeats 1000000 in
theorem refIs_ok (c : Int) (G : Mem) : CallsG Try.prog 167 [.int .i64 c] G (fun _ v rows => v = .bool (decide (0 ≤ c ∧ c ≤ 3)) ∧ rows = []) := by
 refine CallsG.enter Try.func167 rfl rfl ?_
 intro w
 refine Rn 10 (Qo B167 6 3) [Qs B167 7] ⟨17, [(0, I6 c), (2, VB false), (5, VB (c == 0))], []⟩ ?_
 refine X.split 5 rfl (fun h1 => ?_) (fun h1 => ?_)
 ·
  replace h1 : c = 0 := by simpa using h1
  refine Rn 15 (.ex .ret) [] ⟨17, [(2, VB true)], []⟩ ?_
  refine Dg (.inl rfl) [.bool true] [] rfl (Ge.refl _ _) ?_
  exact ⟨congrArg Value.bool (Bool.eq_iff_iff.mpr (by simp; omega)), rfl⟩
 ·
  replace h1 : c ≠ 0 := by simpa using h1
  refine Rn 4 (Qo B167 6 7) [Qs B167 7] ⟨17, [(0, I6 c), (2, VB false), (9, VB (c == 1))], []⟩ ?_
  refine X.split 9 rfl (fun h2 => ?_) (fun h2 => ?_)
  ·
   replace h2 : c = 1 := by simpa using h2
   refine Rn 11 (.ex .ret) [] ⟨17, [(2, VB true)], []⟩ ?_
   refine Dg (.inl rfl) [.bool true] [] rfl (Ge.refl _ _) ?_
   exact ⟨congrArg Value.bool (Bool.eq_iff_iff.mpr (by simp; omega)), rfl⟩
  ·
   replace h2 : c ≠ 1 := by simpa using h2
   refine Rn 4 (Qo B167 6 11) [Qs B167 7] ⟨17, [(0, I6 c), (2, VB false), (13, VB (c == 2))], []⟩ ?_
   refine X.split 13 rfl (fun h3 => ?_) (fun h3 => ?_)
   ·
    replace h3 : c = 2 := by simpa using h3
    refine Rn 7 (.ex .ret) [] ⟨17, [(2, VB true)], []⟩ ?_
    refine Dg (.inl rfl) [.bool true] [] rfl (Ge.refl _ _) ?_
    exact ⟨congrArg Value.bool (Bool.eq_iff_iff.mpr (by simp; omega)), rfl⟩
   ·
    replace h3 : c ≠ 2 := by simpa using h3
    refine Rn 7 (.ex .ret) [] ⟨17, [(2, VB (c == 3))], []⟩ ?_
    refine Dg (.inl rfl) [.bool (c == 3)] [] rfl (Ge.refl _ _) ?_
    exact ⟨congrArg Value.bool (Bool.eq_iff_iff.mpr (by simp; omega)), rfl⟩
/-- leat/ecn.Put -/
noncomputable def B143 : Code := bodyOf Try.f143
set_option maxHeartbeats 1000000 in
theorem Put_ok (x c : Int) (G : Mem) (hx : 0 ≤ x ∧ x ≤ 255) (hc : 0 ≤ c ∧ c ≤ 3) : CallsG Try.prog 143 [.int .u8 x, .int .i64 c] G (fun _ v rows => v = .int .u8 (putT x c) ∧ rows = []) := by
 refine CallsG.enter Try.func143 rfl rfl ?_
 intro w
 refine Rn 9 (Qo B143 12 1) [Qs B143 13, Qs B143 7] ⟨14, [(0, I8 x), (1, I6 c), (4, I8 0), (5, I6 c)], []⟩ ?_
 refine Cg 166 [N6 c] 0 (ecnIs_ok c _) ?_
 rintro v1 G1 rows1 hG1 ⟨rfl, rfl⟩
 refine Rn 3 (Qc B143 13) [Qs B143 7] ⟨14, [(0, I8 x), (1, I6 c), (4, I8 0), (7, VB (!(decide (0 ≤ c ∧ c ≤ 3))))], []⟩ ?_
 refine X.isFalse 7 rfl (by simp; omega) ?_
 refine Rn 14 (.ex .ret) [] ⟨14, [(4, I8 (bor .u8 (bandnot .u8 x 3) (IntKind.u8.wrap c)))], []⟩ ?_
 refine Dg (.inl rfl) [N8 (bor .u8 (bandnot .u8 x 3) (IntKind.u8.wrap c))] [] rfl (hG1) ?_
 rw [put3 hx hc]
 exact ⟨rfl, rfl⟩
/-- leat/leatref09.Put -/
noncomputable def B147 : Code := bodyOf Try.f147
set_option maxHeartbeats 1000000 in
theorem RPut_ok (x c : Int) (G : Mem) (hx : 0 ≤ x ∧ x ≤ 255) (hc : 0 ≤ c ∧ c ≤ 3) : CallsG Try.prog 147 [.int .u8 x, .int .i64 c] G (fun _ v rows => v = .int .u8 (putT x c) ∧ rows = []) := by
 refine CallsG.enter Try.func147 rfl rfl ?_
 intro w
 refine Rn 9 (Qo B147 12 1) [Qs B147 13, Qs B147 7] ⟨16, [(0, I8 x), (1, I6 c), (4, I8 0), (5, I6 c)], []⟩ ?_
 refine Cg 167 [N6 c] 0 (refIs_ok c _) ?_
 rintro v1 G1 rows1 hG1 ⟨rfl, rfl⟩
 refine Rn 3 (Qc B147 13) [Qs B147 7] ⟨16, [(0, I8 x), (1, I6 c), (4, I8 0), (7, VB (!(decide (0 ≤ c ∧ c ≤ 3))))], []⟩ ?_
 refine X.isFalse 7 rfl (by simp; omega) ?_
 refine Rn 16 (.ex .ret) [] ⟨16, [(4, I8 (IntKind.u8.wrap ((IntKind.u8.wrap (x - (Int.tmod x 4))) + (IntKind.u8.wrap c))))], []⟩ ?_
 refine Dg (.inl rfl) [N8 (IntKind.u8.wrap ((IntKind.u8.wrap (x - (Int.tmod x 4))) + (IntKind.u8.wrap c)))] [] rfl (hG1) ?_
 rw [rput3 hx hc]
 exact ⟨rfl, rfl⟩
def ecnM (c : Int) : Int × Bool := if 1 ≤ c ∧ c ≤ 3 then (3, true) else (c, false)
/-- leat/ecn.Mark -/
noncomputable def B148 : Code := bodyOf Try.f148
set_option maxHeartbeats 1000000 in
theorem ecnMark_ok (c : Int) (G : Mem) : CallsG Try.prog 148 [.int .i64 c] G (fun _ v rows => v = .tuple #[.int .i64 (ecnM c).1, .bool (ecnM c).2] ∧ rows = []) := by
 refine CallsG.enter Try.func148 rfl rfl ?_
 intro w
 refine Rn 25 (Qc B148 3329) [Qs B148 1665, Qs B148 833, .blk 1, .blk 2, .blk 3, Qs B148 53, .blk 0, Qs B148 7] ⟨12, [(0, I6 c), (2, I6 0), (3, VB false), (4, I6 c), (5, VB (c == 1))], []⟩ ?_
 refine X.split 5 rfl (fun h1 => ?_) (fun h1 => ?_)
 ·
  replace h1 : c = 1 := by simpa using h1
  refine Rn 19 (.ex .ret) [] ⟨12, [(2, I6 3), (3, VB true)], []⟩ ?_
  refine Dg (.inl rfl) [N6 3, .bool true] [] rfl (Ge.refl _ _) ?_
  rw [show ecnM c = (3, true) from if_pos (by omega)]
  exact ⟨rfl, rfl⟩
 ·
  replace h1 : c ≠ 1 := by simpa using h1
  refine Rn 10 (Qc B148 6661) [Qs B148 3331, Qs B148 833, .blk 1, .blk 2, .blk 3, Qs B148 53, .blk 0, Qs B148 7] ⟨12, [(0, I6 c), (2, I6 0), (3, VB false), (4, I6 c), (7, VB (c == 2))], []⟩ ?_
  refine X.split 7 rfl (fun h2 => ?_) (fun h2 => ?_)
  ·
   replace h2 : c = 2 := by simpa using h2
   refine Rn 19 (.ex .ret) [] ⟨12, [(2, I6 3), (3, VB true)], []⟩ ?_
   refine Dg (.inl rfl) [N6 3, .bool true] [] rfl (Ge.refl _ _) ?_
   rw [show ecnM c = (3, true) from if_pos (by omega)]
   exact ⟨rfl, rfl⟩
  ·
   replace h2 : c ≠ 2 := by simpa using h2
   refine Rn 9 (Qc B148 6663) [Qs B148 833, .blk 1, .blk 2, .blk 3, Qs B148 53, .blk 0, Qs B148 7] ⟨12, [(0, I6 c), (2, I6 0), (3, VB false), (9, VB (c == 3))], []⟩ ?_
   refine X.split 9 rfl (fun h3 => ?_) (fun h3 => ?_)
   ·
    replace h3 : c = 3 := by simpa using h3
    refine Rn 18 (.ex .ret) [] ⟨12, [(2, I6 3), (3, VB true)], []⟩ ?_
    refine Dg (.inl rfl) [N6 3, .bool true] [] rfl (Ge.refl _ _) ?_
    rw [show ecnM c = (3, true) from if_pos (by omega)]
    exact ⟨rfl, rfl⟩
   ·
    replace h3 : c ≠ 3 := by simpa using h3
    refine Rn 18 (.ex .ret) [] ⟨12, [(2, I6 c), (3, VB false)], []⟩ ?_
    refine Dg (.inl rfl) [N6 c, .bool false] [] rfl (Ge.refl _ _) ?_
    rw [show ecnM c = (c, false) from if_neg (by omega)]
    exact ⟨rfl, rfl⟩
/-- leat/leatref46.MF -/
noncomputable def B144 : Code := bodyOf Try.f144
set_option maxHeartbeats 1000000 in
theorem MF_ok (h : Ih) (G : Mem) (hh : h.ok) : CallsG Try.prog 144 [.agg #[.int .u8 h.x0, .int .u8 h.x1, .int .u8 h.x2, .int .u16 h.x3, .int .u16 h.x4, .int .u8 h.x5, .int .u8 h.x6, .int .u8 h.x7, .int .u8 h.x8, .int .u8 h.x9, .int .u8 h.y0, .int .u8 h.y1, .int .u8 h.y2]] G (fun _ v rows => v = .bool (h.x4 / 8192 % 2 == 1) ∧ rows = []) := by
 obtain ⟨h0, h1, h2, h3, h4, h5, h6, h7, h8, h9, k0, k1, k2⟩ := hh
 have hh : h.ok := ⟨h0, h1, h2, h3, h4, h5, h6, h7, h8, h9, k0, k1, k2⟩
 refine CallsG.enter Try.func144 rfl rfl ?_
 intro w
 refine Rn 11 (Qo B144 6 3) [Qs B144 7] ⟨8, [(2, VB false), (5, I1 (IntKind.u16.wrap (Int.tdiv h.x4 8192)))], []⟩ ?_
 refine Kn 5 .u16 (h.x4 / 8192) rfl (wdiv_u16 (by omega) (by omega) (by omega)) ?_
 refine Rn 1 (Qo B144 6 4) [Qs B144 7] ⟨8, [(2, VB false), (6, I1 (Int.tmod (h.x4 / 8192) 2))], []⟩ ?_
 refine Kn 6 .u16 (h.x4 / 8192 % 2) rfl (Int.tmod_eq_emod_of_nonneg (by omega)) ?_
 refine Rn 5 (.ex .ret) [] ⟨8, [(2, VB ((h.x4 / 8192 % 2) == 1))], []⟩ ?_
 refine Dg (.inl rfl) [.bool ((h.x4 / 8192 % 2) == 1)] [] rfl (Ge.refl _ _) ?_
 exact ⟨rfl, rfl⟩
/-- leat/leatref46.Place -/
noncomputable def B146 : Code := bodyOf Try.f146
set_option maxHeartbeats 1000000 in
theorem Place_ok (h : Ih) (G : Mem) (hh : h.ok) : CallsG Try.prog 146 [.agg #[.int .u8 h.x0, .int .u8 h.x1, .int .u8 h.x2, .int .u16 h.x3, .int .u16 h.x4, .int .u8 h.x5, .int .u8 h.x6, .int .u8 h.x7, .int .u8 h.x8, .int .u8 h.x9, .int .u8 h.y0, .int .u8 h.y1, .int .u8 h.y2]] G (fun _ v rows => v = .int .i64 (h.x4 % 8192) ∧ rows = []) := by
 obtain ⟨h0, h1, h2, h3, h4, h5, h6, h7, h8, h9, k0, k1, k2⟩ := hh
 have hh : h.ok := ⟨h0, h1, h2, h3, h4, h5, h6, h7, h8, h9, k0, k1, k2⟩
 refine CallsG.enter Try.func146 rfl rfl ?_
 intro w
 refine Rn 11 (Qo B146 6 3) [Qs B146 7] ⟨7, [(2, I6 0), (5, I1 (Int.tmod h.x4 8192))], []⟩ ?_
 refine Kn 5 .u16 (h.x4 % 8192) rfl (Int.tmod_eq_emod_of_nonneg (by omega)) ?_
 refine Rn 1 (Qo B146 6 4) [Qs B146 7] ⟨7, [(2, I6 0), (6, I6 (IntKind.i64.wrap (h.x4 % 8192)))], []⟩ ?_
 refine Kn 6 .i64 (h.x4 % 8192) rfl (wi64 (by omega) (by omega)) ?_
 refine Rn 4 (.ex .ret) [] ⟨7, [(2, I6 (h.x4 % 8192))], []⟩ ?_
 refine Dg (.inl rfl) [N6 (h.x4 % 8192)] [] rfl (Ge.refl _ _) ?_
 exact ⟨rfl, rfl⟩
/-- (leat/ip.part).place -/
noncomputable def B140 : Code := bodyOf Try.f140
set_option maxHeartbeats 1000000 in
theorem place_ok (h : Ih) (d : ByteArray) (G : Mem) (hh : h.ok) : CallsG Try.prog 140 [.agg #[.int .u8 h.x0, .int .u8 h.x1, .int .u8 h.x2, .int .u16 h.x3, .int .u16 h.x4, .int .u8 h.x5, .int .u8 h.x6, .int .u8 h.x7, .int .u8 h.x8, .int .u8 h.x9, .int .u8 h.y0, .int .u8 h.y1, .int .u8 h.y2, .string d]] G (fun _ v rows => v = .int .i64 (h.x4 % 8192) ∧ rows = []) := by
 obtain ⟨h0, h1, h2, h3, h4, h5, h6, h7, h8, h9, k0, k1, k2⟩ := hh
 have hh : h.ok := ⟨h0, h1, h2, h3, h4, h5, h6, h7, h8, h9, k0, k1, k2⟩
 refine CallsG.enter Try.func140 rfl rfl ?_
 intro w
 refine Rn 17 (.ex .ret) [] ⟨8, [(2, I6 (IntKind.i64.wrap (band .u16 h.x4 8191)))], []⟩ ?_
 refine Dg (.inl rfl) [N6 (IntKind.i64.wrap (band .u16 h.x4 8191))] [] rfl (Ge.refl _ _) ?_
 rw [low13 h4, wi64 (by omega) (by omega)]
 exact ⟨rfl, rfl⟩
end Go.Proofs.YtjgpdbkkpomhjaaX
