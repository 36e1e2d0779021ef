/- leatlaw38.PathBack. Walked; printed by a small program of this session. Conditions: none. -/
import Derived.Test.YtjgpdbkkpomhjaaProg
import Derived.KernelRfl
import Derived.Test.YtjgpdbkkpomhjaaYM3
import Derived.Test.YtjgpdbkkpomhjaaYM4
namespace Go.Proofs.YtjgpdbkkpomhjaaX
open Go.RowKit
open Go.Proofs.YtjgpdbkkpomhjaaW.PrintLast
set_option linter.unusedVariables false
set_option linter.unusedSimpArgs false
set_option maxRecDepth 100000
/-- leat/path.Fate -/
noncomputable def B132 : Code := bodyOf Try.f132
/-- leat/leatlaw38.works -/
noncomputable def B77 : Code := bodyOf Try.f77
set_option maxHeartbeats 1000000 in
theorem works38_ok (G : Mem) : CallsG Try.prog 77 [] G (fun _ v rows => v = .bool true ∧ rows = []) := by
 refine CallsG.enter Try.func77 rfl rfl ?_
 intro w
 refine Rn 7 (Qo B77 6 0) [Qs B77 7] ⟨39, [(0, VB false)], []⟩ ?_
 refine Lt 8 2 1 2 [N6 5, N6 (-1)] ?_
 intro A1
 refine X.inline (f := 132) (l := [VL A1 2 2, I6 0]) (fn := Try.f132) (c := B132) (by kernel_rfl) (by kernel_rfl) Try.func132 (by kernel_rfl) ?_
 intro Q2 M2 hM2 hQ2 fin2
 refine Rn 25 (Qo B132 14 6) [Qs B132 15] ⟨22, [(4, I6 0), (5, VB false), (10, VL A1 2 2), (15, I6 0)], []⟩ ?_
 have b3 : (0 : Int) ≤ 0 := by omega
 have b4 : 0 < ((2 : Nat) : Int) := by omega
 refine Ix 157 2 1 A1 2 2 .i64 0 (.tmp 10) (.tmp 15) b3 b4 (rowSome (i := 8) (q := (RR 2 1 A1 2 2 [N6 5, N6 (-1)])) rfl rfl (Nat.succ_pos _)) ?_
 have at5 : At G [(8, ⟨2, 1, .slice A1 2 2, 2, [.int .i64 5, .int .i64 (-1)]⟩)] A1 (0 * 1) [.int .i64 5] := (At.of_row (i := 8) (r := ⟨2, 1, .slice A1 2 2, 2, [.int .i64 5, .int .i64 (-1)]⟩) rfl rfl).part 0 1
 refine Rn 0 (Qo B132 14 7) [Qs B132 15] ⟨22, [(4, I6 0), (5, VB false), (16, .v (elt A1 (0 * 1)))], []⟩ ?_
 have at6 : At G [(8, ⟨2, 1, .slice A1 2 2, 2, [.int .i64 5, .int .i64 (-1)]⟩)] A1 (0 * 1) [.int .i64 5] := (At.of_row (i := 8) (r := ⟨2, 1, .slice A1 2 2, 2, [.int .i64 5, .int .i64 (-1)]⟩) rfl rfl).part 0 1
 refine Ld 2 A1 (0 * 1) (.tmp 16) (N6 5) [N6 5] at6 ?_
 refine Rn 22 (.ex .ret) [] ⟨22, [(4, I6 5), (5, VB false)], []⟩ ?_
 refine fin2 _ _ _ _ [N6 5, .bool false] [] (.inl rfl) (by kernel_rfl) (by kernel_rfl) ?_
 refine Rn 9 (Qo B77 14 0) [Qs B77 15] ⟨39, [(0, VB false), (1, I6 5), (2, VB false)], []⟩ ?_
 refine Lt 13 2 1 2 [N6 5, N6 (-1)] ?_
 intro A7
 refine X.inline (f := 132) (l := [VL A7 2 2, I6 1]) (fn := Try.f132) (c := B132) (by kernel_rfl) (by kernel_rfl) Try.func132 (by kernel_rfl) ?_
 intro Q8 M8 hM8 hQ8 fin8
 refine Rn 25 (Qo B132 14 6) [Qs B132 15] ⟨22, [(4, I6 0), (5, VB false), (10, VL A7 2 2), (15, I6 1)], []⟩ ?_
 have b9 : (0 : Int) ≤ 1 := by omega
 have b10 : 1 < ((2 : Nat) : Int) := by omega
 refine Ix 157 2 1 A7 2 2 .i64 1 (.tmp 10) (.tmp 15) b9 b10 (rowSome (i := 13) (q := (RR 2 1 A7 2 2 [N6 5, N6 (-1)])) rfl rfl (Nat.succ_pos _)) ?_
 have at11 : At G [(13, ⟨2, 1, .slice A7 2 2, 2, [.int .i64 5, .int .i64 (-1)]⟩), (8, ⟨2, 1, .slice A1 2 2, 2, [.int .i64 5, .int .i64 (-1)]⟩)] A7 (1 * 1) [.int .i64 (-1)] := (At.of_row (i := 13) (r := ⟨2, 1, .slice A7 2 2, 2, [.int .i64 5, .int .i64 (-1)]⟩) rfl rfl).part 1 1
 refine Rn 0 (Qo B132 14 7) [Qs B132 15] ⟨22, [(4, I6 0), (5, VB false), (16, .v (elt A7 (1 * 1)))], []⟩ ?_
 have at12 : At G [(13, ⟨2, 1, .slice A7 2 2, 2, [.int .i64 5, .int .i64 (-1)]⟩), (8, ⟨2, 1, .slice A1 2 2, 2, [.int .i64 5, .int .i64 (-1)]⟩)] A7 (1 * 1) [.int .i64 (-1)] := (At.of_row (i := 13) (r := ⟨2, 1, .slice A7 2 2, 2, [.int .i64 5, .int .i64 (-1)]⟩) rfl rfl).part 1 1
 refine Ld 2 A7 (1 * 1) (.tmp 16) (N6 (-1)) [N6 (-1)] at12 ?_
 refine Rn 19 (.ex .ret) [] ⟨22, [(4, I6 0), (5, VB true)], []⟩ ?_
 refine fin8 _ _ _ _ [N6 0, .bool true] [] (.inl rfl) (by kernel_rfl) (by kernel_rfl) ?_
 refine Rn 9 (Qo B77 30 0) [Qs B77 31] ⟨39, [(0, VB false), (1, I6 5), (2, VB false), (4, VB true)], []⟩ ?_
 refine Lt 18 2 1 2 [N6 5, N6 (-1)] ?_
 intro A13
 refine X.inline (f := 132) (l := [VL A13 2 2, I6 2]) (fn := Try.f132) (c := B132) (by kernel_rfl) (by kernel_rfl) Try.func132 (by kernel_rfl) ?_
 intro Q14 M14 hM14 hQ14 fin14
 refine Rn 25 (Qo B132 14 6) [Qs B132 15] ⟨22, [(4, I6 0), (5, VB false), (10, VL A13 2 2), (15, I6 0)], []⟩ ?_
 have b15 : (0 : Int) ≤ 0 := by omega
 have b16 : 0 < ((2 : Nat) : Int) := by omega
 refine Ix 157 2 1 A13 2 2 .i64 0 (.tmp 10) (.tmp 15) b15 b16 (rowSome (i := 18) (q := (RR 2 1 A13 2 2 [N6 5, N6 (-1)])) rfl rfl (Nat.succ_pos _)) ?_
 have at17 : At G [(18, ⟨2, 1, .slice A13 2 2, 2, [.int .i64 5, .int .i64 (-1)]⟩), (13, ⟨2, 1, .slice A7 2 2, 2, [.int .i64 5, .int .i64 (-1)]⟩), (8, ⟨2, 1, .slice A1 2 2, 2, [.int .i64 5, .int .i64 (-1)]⟩)] A13 (0 * 1) [.int .i64 5] := (At.of_row (i := 18) (r := ⟨2, 1, .slice A13 2 2, 2, [.int .i64 5, .int .i64 (-1)]⟩) rfl rfl).part 0 1
 refine Rn 0 (Qo B132 14 7) [Qs B132 15] ⟨22, [(4, I6 0), (5, VB false), (16, .v (elt A13 (0 * 1)))], []⟩ ?_
 have at18 : At G [(18, ⟨2, 1, .slice A13 2 2, 2, [.int .i64 5, .int .i64 (-1)]⟩), (13, ⟨2, 1, .slice A7 2 2, 2, [.int .i64 5, .int .i64 (-1)]⟩), (8, ⟨2, 1, .slice A1 2 2, 2, [.int .i64 5, .int .i64 (-1)]⟩)] A13 (0 * 1) [.int .i64 5] := (At.of_row (i := 18) (r := ⟨2, 1, .slice A13 2 2, 2, [.int .i64 5, .int .i64 (-1)]⟩) rfl rfl).part 0 1
 refine Ld 2 A13 (0 * 1) (.tmp 16) (N6 5) [N6 5] at18 ?_
 refine Rn 22 (.ex .ret) [] ⟨22, [(4, I6 5), (5, VB false)], []⟩ ?_
 refine fin14 _ _ _ _ [N6 5, .bool false] [] (.inl rfl) (by kernel_rfl) (by kernel_rfl) ?_
 refine Rn 30 (.ex .ret) [] ⟨39, [(0, VB true)], []⟩ ?_
 refine Dg (.inl rfl) [.bool true] [] rfl (Ge.refl _ _) ?_
 exact ⟨rfl, rfl⟩
theorem wi32 {x : Int} (h0 : -2147483648 ≤ x) (h1 : x ≤ 2147483647) : IntKind.i32.wrap x = x := by
 simp only [IntKind.wrap, IntKind.bits, IntKind.signed]
 simp
 omega
/-- leat/leatlaw38.PathBack -/
noncomputable def B22 : Code := bodyOf Try.f22
set_option maxHeartbeats 4000000 in
theorem PathBack_ok (f u s a x y z near : Int) (G : Mem) (hf : 0 ≤ f ∧ f ≤ 65535) (hu : (-9223372036854775808 ≤ u ∧ u ≤ 9223372036854775807)) (hs : 0 ≤ s ∧ s ≤ 4294967295) (ha : 0 ≤ a ∧ a ≤ 255) (hx : (-9223372036854775808 ≤ x ∧ x ≤ 9223372036854775807)) (hy : (-9223372036854775808 ≤ y ∧ y ≤ 9223372036854775807)) (hz : (-9223372036854775808 ≤ z ∧ z ≤ 9223372036854775807)) (hn : -2147483648 ≤ near ∧ near ≤ 2147483647) : CallsG Try.prog 22 [.int .u16 f, .agg #[.int .i64 u, .int .u32 s, .int .u8 a, .int .i64 x, .int .i64 y, .int .i64 z], .int .i32 near] G (fun _ v rows => v = .bool true ∧ rows = []) := by
 obtain ⟨u1_, hu1_⟩ : ∃ z_, min (max u 0) 1152921504606846976 = z_ := ⟨_, rfl⟩
 have hur_ : 0 ≤ u1_ ∧ u1_ ≤ 1152921504606846976 := by omega
 obtain ⟨x1_, hx1_⟩ : ∃ z_, min (max x (-1)) 16777215 = z_ := ⟨_, rfl⟩
 have hxr_ : -1 ≤ x1_ ∧ x1_ ≤ 16777215 := by omega
 obtain ⟨y1_, hy1_⟩ : ∃ z_, min (max y (-1)) 16777215 = z_ := ⟨_, rfl⟩
 have hyr_ : -1 ≤ y1_ ∧ y1_ ≤ 16777215 := by omega
 obtain ⟨z1_, hz1_⟩ : ∃ z_, min (max z (-1)) 16777215 = z_ := ⟨_, rfl⟩
 have hzr_ : -1 ≤ z1_ ∧ z1_ ≤ 16777215 := by omega
 refine CallsG.enter Try.func22 rfl rfl ?_
 intro w
 refine Rn 11 (Qo B22 6 3) [Qs B22 7] ⟨108, [(0, I1 f), (2, .v (.int .i32 near)), (4, .own 4 0), (6, VB false), (17, I6 (imax u 0))], [(4, ⟨103, [I6 u, I3 s, I8 a, I6 x, I6 y, I6 z]⟩)]⟩ ?_
 refine Kn 17 .i64 (max u 0) rfl (by simp only [imin_eq, imax_eq]) ?_
 refine Rn 1 (Qo B22 6 4) [Qs B22 7] ⟨108, [(0, I1 f), (2, .v (.int .i32 near)), (4, .own 4 0), (6, VB false), (18, I6 (imin (max u 0) 1152921504606846976))], [(4, ⟨103, [I6 u, I3 s, I8 a, I6 x, I6 y, I6 z]⟩)]⟩ ?_
 refine Kn 18 .i64 u1_ rfl (by simp only [imin_eq, imax_eq]; omega) ?_
 refine Rn 11 (Qc B22 58) [.blk 0, Qs B22 15] ⟨108, [(0, I1 f), (2, .v (.int .i32 near)), (4, .own 4 0), (6, VB false), (20, I6 0)], [(4, ⟨103, [I6 u1_, I3 s, I8 a, I6 x, I6 y, I6 z]⟩)]⟩ ?_
 refine X.rounds 5 ?_
 refine RX.succ fun J1 hJ1 => ?_
 refine Rn 24 (Qo B22 3737 6) [.blk 1, Qs B22 935, .loop J1, .blk 0, Qs B22 15] ⟨108, [(0, I1 f), (2, .v (.int .i32 near)), (4, .own 4 0), (6, VB false), (7, I6 0), (20, I6 0), (21, VB true), (22, I6 0), (23, I6 0), (24, I6 0), (25, .own 4 3), (26, .own 4 3), (27, I6 x), (28, I6 (imax x (-1)))], [(4, ⟨103, [I6 u1_, I3 s, I8 a, I6 x, I6 y, I6 z]⟩)]⟩ ?_
 refine Kn 28 .i64 (max x (-1)) rfl (by simp only [imin_eq, imax_eq]) ?_
 refine Rn 1 (Qo B22 3737 7) [.blk 1, Qs B22 935, .loop J1, .blk 0, Qs B22 15] ⟨108, [(0, I1 f), (2, .v (.int .i32 near)), (4, .own 4 0), (6, VB false), (7, I6 0), (20, I6 0), (21, VB true), (22, I6 0), (23, I6 0), (24, I6 0), (25, .own 4 3), (26, .own 4 3), (27, I6 x), (28, I6 (max x (-1))), (29, I6 (imin (max x (-1)) 16777215))], [(4, ⟨103, [I6 u1_, I3 s, I8 a, I6 x, I6 y, I6 z]⟩)]⟩ ?_
 refine Kn 29 .i64 x1_ rfl (by simp only [imin_eq, imax_eq]; omega) ?_
 refine Rn 10 (.ex .normal) [.loop J1, .blk 0, Qs B22 15] ⟨108, [(0, I1 f), (2, .v (.int .i32 near)), (4, .own 4 0), (6, VB false), (7, I6 0), (20, I6 1), (21, VB true), (22, I6 0), (23, I6 0), (24, I6 0), (25, .own 4 3), (26, .own 4 3), (27, I6 x), (28, I6 (max x (-1))), (29, I6 x1_), (30, .own 4 3), (31, .own 4 3), (32, I6 1)], [(4, ⟨103, [I6 u1_, I3 s, I8 a, I6 x1_, I6 y, I6 z]⟩)]⟩ ?_
 refine X.again (hJ1 _ _ _ ?_)
 refine RX.succ fun J2 hJ2 => ?_
 refine Rn 24 (Qo B22 3737 6) [.blk 1, Qs B22 935, .loop J2, .blk 0, Qs B22 15] ⟨108, [(0, I1 f), (2, .v (.int .i32 near)), (4, .own 4 0), (6, VB false), (7, I6 1), (20, I6 1), (21, VB true), (22, I6 1), (23, I6 1), (24, I6 1), (25, .own 4 3), (26, .own 4 4), (27, I6 y), (28, I6 (imax y (-1))), (29, I6 x1_), (30, .own 4 3), (31, .own 4 3), (32, I6 1)], [(4, ⟨103, [I6 u1_, I3 s, I8 a, I6 x1_, I6 y, I6 z]⟩)]⟩ ?_
 refine Kn 28 .i64 (max y (-1)) rfl (by simp only [imin_eq, imax_eq]) ?_
 refine Rn 1 (Qo B22 3737 7) [.blk 1, Qs B22 935, .loop J2, .blk 0, Qs B22 15] ⟨108, [(0, I1 f), (2, .v (.int .i32 near)), (4, .own 4 0), (6, VB false), (7, I6 1), (20, I6 1), (21, VB true), (22, I6 1), (23, I6 1), (24, I6 1), (25, .own 4 3), (26, .own 4 4), (27, I6 y), (28, I6 (max y (-1))), (29, I6 (imin (max y (-1)) 16777215)), (30, .own 4 3), (31, .own 4 3), (32, I6 1)], [(4, ⟨103, [I6 u1_, I3 s, I8 a, I6 x1_, I6 y, I6 z]⟩)]⟩ ?_
 refine Kn 29 .i64 y1_ rfl (by simp only [imin_eq, imax_eq]; omega) ?_
 refine Rn 10 (.ex .normal) [.loop J2, .blk 0, Qs B22 15] ⟨108, [(0, I1 f), (2, .v (.int .i32 near)), (4, .own 4 0), (6, VB false), (7, I6 1), (20, I6 2), (21, VB true), (22, I6 1), (23, I6 1), (24, I6 1), (25, .own 4 3), (26, .own 4 4), (27, I6 y), (28, I6 (max y (-1))), (29, I6 y1_), (30, .own 4 3), (31, .own 4 4), (32, I6 2)], [(4, ⟨103, [I6 u1_, I3 s, I8 a, I6 x1_, I6 y1_, I6 z]⟩)]⟩ ?_
 refine X.again (hJ2 _ _ _ ?_)
 refine RX.succ fun J3 hJ3 => ?_
 refine Rn 24 (Qo B22 3737 6) [.blk 1, Qs B22 935, .loop J3, .blk 0, Qs B22 15] ⟨108, [(0, I1 f), (2, .v (.int .i32 near)), (4, .own 4 0), (6, VB false), (7, I6 2), (20, I6 2), (21, VB true), (22, I6 2), (23, I6 2), (24, I6 2), (25, .own 4 3), (26, .own 4 5), (27, I6 z), (28, I6 (imax z (-1))), (29, I6 y1_), (30, .own 4 3), (31, .own 4 4), (32, I6 2)], [(4, ⟨103, [I6 u1_, I3 s, I8 a, I6 x1_, I6 y1_, I6 z]⟩)]⟩ ?_
 refine Kn 28 .i64 (max z (-1)) rfl (by simp only [imin_eq, imax_eq]) ?_
 refine Rn 1 (Qo B22 3737 7) [.blk 1, Qs B22 935, .loop J3, .blk 0, Qs B22 15] ⟨108, [(0, I1 f), (2, .v (.int .i32 near)), (4, .own 4 0), (6, VB false), (7, I6 2), (20, I6 2), (21, VB true), (22, I6 2), (23, I6 2), (24, I6 2), (25, .own 4 3), (26, .own 4 5), (27, I6 z), (28, I6 (max z (-1))), (29, I6 (imin (max z (-1)) 16777215)), (30, .own 4 3), (31, .own 4 4), (32, I6 2)], [(4, ⟨103, [I6 u1_, I3 s, I8 a, I6 x1_, I6 y1_, I6 z]⟩)]⟩ ?_
 refine Kn 29 .i64 z1_ rfl (by simp only [imin_eq, imax_eq]; omega) ?_
 refine Rn 10 (.ex .normal) [.loop J3, .blk 0, Qs B22 15] ⟨108, [(0, I1 f), (2, .v (.int .i32 near)), (4, .own 4 0), (6, VB false), (7, I6 2), (20, I6 3), (21, VB true), (22, I6 2), (23, I6 2), (24, I6 2), (25, .own 4 3), (26, .own 4 5), (27, I6 z), (28, I6 (max z (-1))), (29, I6 z1_), (30, .own 4 3), (31, .own 4 5), (32, I6 3)], [(4, ⟨103, [I6 u1_, I3 s, I8 a, I6 x1_, I6 y1_, I6 z1_]⟩)]⟩ ?_
 refine X.again (hJ3 _ _ _ ?_)
 refine RX.succ fun J4 hJ4 => ?_
 refine Rn 25 (Qo B22 60 10) [Qs B22 61, Qs B22 31] ⟨108, [(0, I1 f), (2, .v (.int .i32 near)), (4, .own 4 0), (6, VB false), (42, I6 (imin (imin x1_ y1_) z1_))], [(4, ⟨103, [I6 u1_, I3 s, I8 a, I6 x1_, I6 y1_, I6 z1_]⟩)]⟩ ?_
 refine Kn 42 .i64 (min (min x1_ y1_) z1_) rfl (by simp only [imin_eq, imax_eq]) ?_
 refine Rn 3 (Qc B22 61) [Qs B22 31] ⟨108, [(0, I1 f), (2, .v (.int .i32 near)), (4, .own 4 0), (6, VB false), (43, VB (decide (min (min x1_ y1_) z1_ < 0)))], [(4, ⟨103, [I6 u1_, I3 s, I8 a, I6 x1_, I6 y1_, I6 z1_]⟩)]⟩ ?_
 refine X.split 43 rfl (fun h5 => ?_) (fun h5 => ?_)
 ·
  replace h5 : min (min x1_ y1_) z1_ < 0 := of_decide_eq_true h5
  have hb_ : (0 ≤ (-1 : Int) ∧ (-1 : Int) ≤ 16777215) ∧ (0 ≤ (-1 : Int) ∧ (-1 : Int) ≤ 16777215) ∧ (0 ≤ (-1 : Int) ∧ (-1 : Int) ≤ 16777215) ∨ (-1 : Int) = -1 ∧ (-1 : Int) = -1 ∧ (-1 : Int) = -1 := .inr ⟨rfl, rfl, rfl⟩
  refine Rn 11 (Qo B22 62 2) [Qs B22 63] ⟨108, [(0, I1 f), (2, .v (.int .i32 near)), (4, .own 4 0), (6, VB false), (48, I6 (IntKind.i64.wrap f))], [(4, ⟨103, [I6 u1_, I3 s, I8 a, I6 (-1), I6 (-1), I6 (-1)]⟩)]⟩ ?_
  refine Kn 48 .i64 f rfl (wi64 (by omega) (by omega)) ?_
  refine Rn 1 (Qo B22 62 3) [Qs B22 63] ⟨108, [(0, I1 f), (2, .v (.int .i32 near)), (4, .own 4 0), (6, VB false), (48, I6 f), (49, .v (.agg #[N6 u1_, N3 s, N8 a, N6 (-1), N6 (-1), N6 (-1)]))], [(4, ⟨103, [I6 u1_, I3 s, I8 a, I6 (-1), I6 (-1), I6 (-1)]⟩)]⟩ ?_
  refine Cg 73 [N6 f, .agg #[N6 u1_, N3 s, N8 a, N6 (-1), N6 (-1), N6 (-1)]] 720 (Write_ok f u1_ s a (-1) (-1) (-1) _ (by omega) (by omega) (by omega) (by omega) (by omega)) ?_
  rintro v6 G6 rows6 hG6 ⟨A6, c6, rfl, rfl⟩
  refine X.asR (R' := [(720, RR 5 1 A6 ((wrP f ⟨u1_, s, a, (-1), (-1), (-1)⟩).1.length) c6 (((wrP f ⟨u1_, s, a, (-1), (-1), (-1)⟩).1).map (Value.int .u8)))]) rfl ?_
  refine X.tellR [720] (R' := [(720, RR 5 1 A6 ((wrP f ⟨u1_, s, a, (-1), (-1), (-1)⟩).1.length) c6 (((wrP f ⟨u1_, s, a, (-1), (-1), (-1)⟩).1).map (Value.int .u8)))]) rfl ?_
  refine X.capLe (i := 720) (q := (RR 5 1 A6 ((wrP f ⟨u1_, s, a, (-1), (-1), (-1)⟩).1.length) c6 (((wrP f ⟨u1_, s, a, (-1), (-1), (-1)⟩).1).map (Value.int .u8)))) (n := (wrP f ⟨u1_, s, a, (-1), (-1), (-1)⟩).1.length) (c := c6) (A := A6) rfl rfl ?_
  intro hle7 hmx7
  refine X.freezeHd (i := 720) (n := (wrP f ⟨u1_, s, a, (-1), (-1), (-1)⟩).1.length) (c := c6) (A := A6) (kd := .u8) ((wrP f ⟨u1_, s, a, (-1), (-1), (-1)⟩).1) rfl rfl (fun x_ hx_ => by have h_ := encS_bytes exW_ok (hdW_ok (by omega)) x_ hx_; simp only [IntKind.lo, IntKind.hi]; omega) (by kernel_rfl) (fun _ h => h) ?_
  intro G7 hG7 hr7
  refine Rn 15 (Qc B22 253) [Qs B22 127] ⟨108, [(0, I1 f), (2, .v (.int .i32 near)), (4, .own 4 0), (6, VB false), (8, VL A6 ((wrP f ⟨u1_, s, a, (-1), (-1), (-1)⟩).1.length) c6), (9, I6 ((wrP f ⟨u1_, s, a, (-1), (-1), (-1)⟩).2)), (55, VB (decide (a > 7)))], [(4, ⟨103, [I6 u1_, I3 s, I8 a, I6 (-1), I6 (-1), I6 (-1)]⟩)]⟩ ?_
  refine X.split 55 rfl (fun h8 => ?_) (fun h8 => ?_)
  ·
   replace h8 : a > 7 := of_decide_eq_true h8
   have hw_ : wrP f ⟨u1_, s, a, (-1), (-1), (-1)⟩ = ([], 2) := wrP_range (k := ⟨u1_, s, a, (-1), (-1), (-1)⟩) hs (show 7 < a by omega)
   refine Rn 6 (Qo B22 1012 3) [Qs B22 1013, Qs B22 127] ⟨108, [(0, I1 f), (2, .v (.int .i32 near)), (4, .own 4 0), (6, VB false), (8, VL A6 ((wrP f ⟨u1_, s, a, (-1), (-1), (-1)⟩).1.length) c6), (9, I6 ((wrP f ⟨u1_, s, a, (-1), (-1), (-1)⟩).2)), (58, VB (((wrP f ⟨u1_, s, a, (-1), (-1), (-1)⟩).2) == 2))], [(4, ⟨103, [I6 u1_, I3 s, I8 a, I6 (-1), I6 (-1), I6 (-1)]⟩)]⟩ ?_
   refine X.isTrue 58 rfl (by rw [hw_]; rfl) ?_
   refine Rn 5 (Qo B22 1012 8) [Qs B22 1013, Qs B22 127] ⟨108, [(0, I1 f), (2, .v (.int .i32 near)), (4, .own 4 0), (6, VB false), (8, VL A6 ((wrP f ⟨u1_, s, a, (-1), (-1), (-1)⟩).1.length) c6), (9, I6 ((wrP f ⟨u1_, s, a, (-1), (-1), (-1)⟩).2)), (63, VB ((((wrP f ⟨u1_, s, a, (-1), (-1), (-1)⟩).1.length : Nat) : Int) == 0))], [(4, ⟨103, [I6 u1_, I3 s, I8 a, I6 (-1), I6 (-1), I6 (-1)]⟩)]⟩ ?_
   refine X.isTrue 63 rfl (by rw [hw_]; rfl) ?_
   refine Cg 77 [] 0 (works38_ok _) ?_
   rintro v9 G9 rows9 hG9 ⟨rfl, rfl⟩
   replace hr7 := hr7.mono hG9.le
   refine Rn 6 (.ex .ret) [] ⟨108, [(6, VB true)], []⟩ ?_
   refine Dg (.inl rfl) [.bool true] [] rfl (((hG6.trans hG7).trans hG9)) ?_
   exact ⟨rfl, rfl⟩
  ·
   replace h8 : ¬ (a > 7) := of_decide_eq_false h8
   have hw2_ : (wrP f ⟨u1_, s, a, (-1), (-1), (-1)⟩).2 = 0 := (wrP_back (k := ⟨u1_, s, a, (-1), (-1), (-1)⟩) hs (show 0 ≤ a ∧ a ≤ 7 by omega)).1
   obtain ⟨h_, hh_⟩ : ∃ z_, Int.tdiv near 2 = z_ := ⟨_, rfl⟩
   have hhr_ := half hn
   rw [hh_] at hhr_
   obtain ⟨hr1_, hr2_⟩ := path_back (f := f) (last := max (u1_ - h_) 0) (k := ⟨u1_, s, a, (-1), (-1), (-1)⟩) hs (show 0 ≤ a ∧ a ≤ 7 by omega) (by omega) (show -2147483648 ≤ u1_ - max (u1_ - h_) 0 ∧ u1_ - max (u1_ - h_) 0 ≤ 2147483647 by omega) hb_
   refine Rn 9 (Qo B22 254 4) [Qs B22 255] ⟨108, [(0, I1 f), (4, .own 4 0), (6, VB false), (8, VL A6 ((wrP f ⟨u1_, s, a, (-1), (-1), (-1)⟩).1.length) c6), (9, I6 ((wrP f ⟨u1_, s, a, (-1), (-1), (-1)⟩).2)), (67, I6 u1_), (69, .v (.int .i32 (IntKind.i32.wrap (Int.tdiv near 2))))], [(4, ⟨103, [I6 u1_, I3 s, I8 a, I6 (-1), I6 (-1), I6 (-1)]⟩)]⟩ ?_
   refine Kn 69 .i32 h_ rfl (by rw [hh_]; exact wi32 (by omega) (by omega)) ?_
   refine Rn 1 (Qo B22 254 5) [Qs B22 255] ⟨108, [(0, I1 f), (4, .own 4 0), (6, VB false), (8, VL A6 ((wrP f ⟨u1_, s, a, (-1), (-1), (-1)⟩).1.length) c6), (9, I6 ((wrP f ⟨u1_, s, a, (-1), (-1), (-1)⟩).2)), (67, I6 u1_), (70, I6 (IntKind.i64.wrap h_))], [(4, ⟨103, [I6 u1_, I3 s, I8 a, I6 (-1), I6 (-1), I6 (-1)]⟩)]⟩ ?_
   refine Kn 70 .i64 h_ rfl (wi64 (by omega) (by omega)) ?_
   refine Rn 1 (Qo B22 254 6) [Qs B22 255] ⟨108, [(0, I1 f), (4, .own 4 0), (6, VB false), (8, VL A6 ((wrP f ⟨u1_, s, a, (-1), (-1), (-1)⟩).1.length) c6), (9, I6 ((wrP f ⟨u1_, s, a, (-1), (-1), (-1)⟩).2)), (71, I6 (IntKind.i64.wrap (u1_ - h_)))], [(4, ⟨103, [I6 u1_, I3 s, I8 a, I6 (-1), I6 (-1), I6 (-1)]⟩)]⟩ ?_
   refine Kn 71 .i64 (u1_ - h_) rfl (wi64 (by omega) (by omega)) ?_
   refine Rn 1 (Qo B22 254 7) [Qs B22 255] ⟨108, [(0, I1 f), (4, .own 4 0), (6, VB false), (8, VL A6 ((wrP f ⟨u1_, s, a, (-1), (-1), (-1)⟩).1.length) c6), (9, I6 ((wrP f ⟨u1_, s, a, (-1), (-1), (-1)⟩).2)), (72, I6 (imax (u1_ - h_) 0))], [(4, ⟨103, [I6 u1_, I3 s, I8 a, I6 (-1), I6 (-1), I6 (-1)]⟩)]⟩ ?_
   refine Kn 72 .i64 (max (u1_ - h_) 0) rfl (by simp only [imin_eq, imax_eq]) ?_
   refine Rn 7 (Qo B22 510 2) [Qs B22 511] ⟨108, [(0, I1 f), (4, .own 4 0), (6, VB false), (8, VL A6 ((wrP f ⟨u1_, s, a, (-1), (-1), (-1)⟩).1.length) c6), (9, I6 ((wrP f ⟨u1_, s, a, (-1), (-1), (-1)⟩).2)), (10, I6 (max (u1_ - h_) 0)), (75, I6 (IntKind.i64.wrap f))], [(4, ⟨103, [I6 u1_, I3 s, I8 a, I6 (-1), I6 (-1), I6 (-1)]⟩)]⟩ ?_
   refine Kn 75 .i64 f rfl (wi64 (by omega) (by omega)) ?_
   refine Rn 2 (Qo B22 510 4) [Qs B22 511] ⟨108, [(0, I1 f), (4, .own 4 0), (6, VB false), (8, VL A6 ((wrP f ⟨u1_, s, a, (-1), (-1), (-1)⟩).1.length) c6), (9, I6 ((wrP f ⟨u1_, s, a, (-1), (-1), (-1)⟩).2)), (10, I6 (max (u1_ - h_) 0)), (75, I6 f), (76, VL A6 ((wrP f ⟨u1_, s, a, (-1), (-1), (-1)⟩).1.length) c6), (77, I6 (max (u1_ - h_) 0))], [(4, ⟨103, [I6 u1_, I3 s, I8 a, I6 (-1), I6 (-1), I6 (-1)]⟩)]⟩ ?_
   refine Cg 75 [N6 f, .slice A6 ((wrP f ⟨u1_, s, a, (-1), (-1), (-1)⟩).1.length) c6, N6 (max (u1_ - h_) 0)] 0 (Read_okP f (max (u1_ - h_) 0) A6 c6 ((wrP f ⟨u1_, s, a, (-1), (-1), (-1)⟩).1) _ hr7 hle7 hmx7) ?_
   rintro v10 G10 rows10 hG10 ⟨rfl, rfl⟩
   replace hr7 := hr7.mono hG10.le
   refine Rn 12 (Qo B22 1022 2) [Qs B22 1023] ⟨108, [(4, .own 4 0), (6, VB false), (8, VL A6 ((wrP f ⟨u1_, s, a, (-1), (-1), (-1)⟩).1.length) c6), (9, I6 ((wrP f ⟨u1_, s, a, (-1), (-1), (-1)⟩).2)), (10, I6 (max (u1_ - h_) 0)), (11, .own 11 0), (12, I6 ((rdP f ((wrP f ⟨u1_, s, a, (-1), (-1), (-1)⟩).1) (max (u1_ - h_) 0)).2)), (83, I6 (IntKind.i64.wrap f))], [(4, ⟨103, [I6 u1_, I3 s, I8 a, I6 (-1), I6 (-1), I6 (-1)]⟩), (11, ⟨103, [I6 ((rdP f ((wrP f ⟨u1_, s, a, (-1), (-1), (-1)⟩).1) (max (u1_ - h_) 0)).1.u), I3 ((rdP f ((wrP f ⟨u1_, s, a, (-1), (-1), (-1)⟩).1) (max (u1_ - h_) 0)).1.s), I8 ((rdP f ((wrP f ⟨u1_, s, a, (-1), (-1), (-1)⟩).1) (max (u1_ - h_) 0)).1.a), I6 ((rdP f ((wrP f ⟨u1_, s, a, (-1), (-1), (-1)⟩).1) (max (u1_ - h_) 0)).1.x), I6 ((rdP f ((wrP f ⟨u1_, s, a, (-1), (-1), (-1)⟩).1) (max (u1_ - h_) 0)).1.y), I6 ((rdP f ((wrP f ⟨u1_, s, a, (-1), (-1), (-1)⟩).1) (max (u1_ - h_) 0)).1.z)]⟩)]⟩ ?_
   refine Kn 83 .i64 f rfl (wi64 (by omega) (by omega)) ?_
   refine Rn 1 (Qo B22 1022 3) [Qs B22 1023] ⟨108, [(4, .own 4 0), (6, VB false), (8, VL A6 ((wrP f ⟨u1_, s, a, (-1), (-1), (-1)⟩).1.length) c6), (9, I6 ((wrP f ⟨u1_, s, a, (-1), (-1), (-1)⟩).2)), (10, I6 (max (u1_ - h_) 0)), (11, .own 11 0), (12, I6 ((rdP f ((wrP f ⟨u1_, s, a, (-1), (-1), (-1)⟩).1) (max (u1_ - h_) 0)).2)), (84, I6 (IntKind.i64.wrap (f + 1)))], [(4, ⟨103, [I6 u1_, I3 s, I8 a, I6 (-1), I6 (-1), I6 (-1)]⟩), (11, ⟨103, [I6 ((rdP f ((wrP f ⟨u1_, s, a, (-1), (-1), (-1)⟩).1) (max (u1_ - h_) 0)).1.u), I3 ((rdP f ((wrP f ⟨u1_, s, a, (-1), (-1), (-1)⟩).1) (max (u1_ - h_) 0)).1.s), I8 ((rdP f ((wrP f ⟨u1_, s, a, (-1), (-1), (-1)⟩).1) (max (u1_ - h_) 0)).1.a), I6 ((rdP f ((wrP f ⟨u1_, s, a, (-1), (-1), (-1)⟩).1) (max (u1_ - h_) 0)).1.x), I6 ((rdP f ((wrP f ⟨u1_, s, a, (-1), (-1), (-1)⟩).1) (max (u1_ - h_) 0)).1.y), I6 ((rdP f ((wrP f ⟨u1_, s, a, (-1), (-1), (-1)⟩).1) (max (u1_ - h_) 0)).1.z)]⟩)]⟩ ?_
   refine Kn 84 .i64 (f + 1) rfl (wi64 (by omega) (by omega)) ?_
   refine Rn 2 (Qo B22 1022 5) [Qs B22 1023] ⟨108, [(4, .own 4 0), (6, VB false), (9, I6 ((wrP f ⟨u1_, s, a, (-1), (-1), (-1)⟩).2)), (11, .own 11 0), (12, I6 ((rdP f ((wrP f ⟨u1_, s, a, (-1), (-1), (-1)⟩).1) (max (u1_ - h_) 0)).2)), (84, I6 (f + 1)), (85, VL A6 ((wrP f ⟨u1_, s, a, (-1), (-1), (-1)⟩).1.length) c6), (86, I6 (max (u1_ - h_) 0))], [(4, ⟨103, [I6 u1_, I3 s, I8 a, I6 (-1), I6 (-1), I6 (-1)]⟩), (11, ⟨103, [I6 ((rdP f ((wrP f ⟨u1_, s, a, (-1), (-1), (-1)⟩).1) (max (u1_ - h_) 0)).1.u), I3 ((rdP f ((wrP f ⟨u1_, s, a, (-1), (-1), (-1)⟩).1) (max (u1_ - h_) 0)).1.s), I8 ((rdP f ((wrP f ⟨u1_, s, a, (-1), (-1), (-1)⟩).1) (max (u1_ - h_) 0)).1.a), I6 ((rdP f ((wrP f ⟨u1_, s, a, (-1), (-1), (-1)⟩).1) (max (u1_ - h_) 0)).1.x), I6 ((rdP f ((wrP f ⟨u1_, s, a, (-1), (-1), (-1)⟩).1) (max (u1_ - h_) 0)).1.y), I6 ((rdP f ((wrP f ⟨u1_, s, a, (-1), (-1), (-1)⟩).1) (max (u1_ - h_) 0)).1.z)]⟩)]⟩ ?_
   refine Cg 75 [N6 (f + 1), .slice A6 ((wrP f ⟨u1_, s, a, (-1), (-1), (-1)⟩).1.length) c6, N6 (max (u1_ - h_) 0)] 0 (Read_okP (f + 1) (max (u1_ - h_) 0) A6 c6 ((wrP f ⟨u1_, s, a, (-1), (-1), (-1)⟩).1) _ hr7 hle7 hmx7) ?_
   rintro v11 G11 rows11 hG11 ⟨rfl, rfl⟩
   replace hr7 := hr7.mono hG11.le
   refine Rn 13 (Qo B22 2046 3) [Qs B22 2047] ⟨108, [(4, .own 4 0), (6, VB false), (11, .own 11 0), (12, I6 ((rdP f ((wrP f ⟨u1_, s, a, (-1), (-1), (-1)⟩).1) (max (u1_ - h_) 0)).2)), (14, I6 ((rdP (f + 1) ((wrP f ⟨u1_, s, a, (-1), (-1), (-1)⟩).1) (max (u1_ - h_) 0)).2)), (92, VB (((wrP f ⟨u1_, s, a, (-1), (-1), (-1)⟩).2) == 0))], [(4, ⟨103, [I6 u1_, I3 s, I8 a, I6 (-1), I6 (-1), I6 (-1)]⟩), (11, ⟨103, [I6 ((rdP f ((wrP f ⟨u1_, s, a, (-1), (-1), (-1)⟩).1) (max (u1_ - h_) 0)).1.u), I3 ((rdP f ((wrP f ⟨u1_, s, a, (-1), (-1), (-1)⟩).1) (max (u1_ - h_) 0)).1.s), I8 ((rdP f ((wrP f ⟨u1_, s, a, (-1), (-1), (-1)⟩).1) (max (u1_ - h_) 0)).1.a), I6 ((rdP f ((wrP f ⟨u1_, s, a, (-1), (-1), (-1)⟩).1) (max (u1_ - h_) 0)).1.x), I6 ((rdP f ((wrP f ⟨u1_, s, a, (-1), (-1), (-1)⟩).1) (max (u1_ - h_) 0)).1.y), I6 ((rdP f ((wrP f ⟨u1_, s, a, (-1), (-1), (-1)⟩).1) (max (u1_ - h_) 0)).1.z)]⟩)]⟩ ?_
   refine X.isTrue 92 rfl (by rw [hw2_]; rfl) ?_
   refine Rn 4 (Qo B22 2046 7) [Qs B22 2047] ⟨108, [(4, .own 4 0), (6, VB false), (11, .own 11 0), (14, I6 ((rdP (f + 1) ((wrP f ⟨u1_, s, a, (-1), (-1), (-1)⟩).1) (max (u1_ - h_) 0)).2)), (96, VB (((rdP f ((wrP f ⟨u1_, s, a, (-1), (-1), (-1)⟩).1) (max (u1_ - h_) 0)).2) == 0))], [(4, ⟨103, [I6 u1_, I3 s, I8 a, I6 (-1), I6 (-1), I6 (-1)]⟩), (11, ⟨103, [I6 ((rdP f ((wrP f ⟨u1_, s, a, (-1), (-1), (-1)⟩).1) (max (u1_ - h_) 0)).1.u), I3 ((rdP f ((wrP f ⟨u1_, s, a, (-1), (-1), (-1)⟩).1) (max (u1_ - h_) 0)).1.s), I8 ((rdP f ((wrP f ⟨u1_, s, a, (-1), (-1), (-1)⟩).1) (max (u1_ - h_) 0)).1.a), I6 ((rdP f ((wrP f ⟨u1_, s, a, (-1), (-1), (-1)⟩).1) (max (u1_ - h_) 0)).1.x), I6 ((rdP f ((wrP f ⟨u1_, s, a, (-1), (-1), (-1)⟩).1) (max (u1_ - h_) 0)).1.y), I6 ((rdP f ((wrP f ⟨u1_, s, a, (-1), (-1), (-1)⟩).1) (max (u1_ - h_) 0)).1.z)]⟩)]⟩ ?_
   refine X.isTrue 96 rfl (by rw [hr1_]; rfl) ?_
   refine Rn 2 (Qo B22 2046 9) [Qs B22 2047] ⟨108, [(6, VB false), (14, I6 ((rdP (f + 1) ((wrP f ⟨u1_, s, a, (-1), (-1), (-1)⟩).1) (max (u1_ - h_) 0)).2)), (96, VB true), (97, .v (.agg #[N6 ((rdP f ((wrP f ⟨u1_, s, a, (-1), (-1), (-1)⟩).1) (max (u1_ - h_) 0)).1.u), N3 ((rdP f ((wrP f ⟨u1_, s, a, (-1), (-1), (-1)⟩).1) (max (u1_ - h_) 0)).1.s), N8 ((rdP f ((wrP f ⟨u1_, s, a, (-1), (-1), (-1)⟩).1) (max (u1_ - h_) 0)).1.a), N6 ((rdP f ((wrP f ⟨u1_, s, a, (-1), (-1), (-1)⟩).1) (max (u1_ - h_) 0)).1.x), N6 ((rdP f ((wrP f ⟨u1_, s, a, (-1), (-1), (-1)⟩).1) (max (u1_ - h_) 0)).1.y), N6 ((rdP f ((wrP f ⟨u1_, s, a, (-1), (-1), (-1)⟩).1) (max (u1_ - h_) 0)).1.z)])), (98, .v (.agg #[N6 u1_, N3 s, N8 a, N6 (-1), N6 (-1), N6 (-1)]))], []⟩ ?_
   refine X.eqV (t := 103) (t' := 103) (x := .tmp 97) (y := .tmp 98) (xs := #[N6 ((rdP f ((wrP f ⟨u1_, s, a, (-1), (-1), (-1)⟩).1) (max (u1_ - h_) 0)).1.u), N3 ((rdP f ((wrP f ⟨u1_, s, a, (-1), (-1), (-1)⟩).1) (max (u1_ - h_) 0)).1.s), N8 ((rdP f ((wrP f ⟨u1_, s, a, (-1), (-1), (-1)⟩).1) (max (u1_ - h_) 0)).1.a), N6 ((rdP f ((wrP f ⟨u1_, s, a, (-1), (-1), (-1)⟩).1) (max (u1_ - h_) 0)).1.x), N6 ((rdP f ((wrP f ⟨u1_, s, a, (-1), (-1), (-1)⟩).1) (max (u1_ - h_) 0)).1.y), N6 ((rdP f ((wrP f ⟨u1_, s, a, (-1), (-1), (-1)⟩).1) (max (u1_ - h_) 0)).1.z)]) (ys := #[N6 u1_, N3 s, N8 a, N6 (-1), N6 (-1), N6 (-1)]) (b := ((((rdP f ((wrP f ⟨u1_, s, a, (-1), (-1), (-1)⟩).1) (max (u1_ - h_) 0)).1.u : Int) == u1_) && ((((rdP f ((wrP f ⟨u1_, s, a, (-1), (-1), (-1)⟩).1) (max (u1_ - h_) 0)).1.s : Int) == s) && ((((rdP f ((wrP f ⟨u1_, s, a, (-1), (-1), (-1)⟩).1) (max (u1_ - h_) 0)).1.a : Int) == a) && (((((rdP f ((wrP f ⟨u1_, s, a, (-1), (-1), (-1)⟩).1) (max (u1_ - h_) 0)).1.x : Int) == (-1)) && ((((rdP f ((wrP f ⟨u1_, s, a, (-1), (-1), (-1)⟩).1) (max (u1_ - h_) 0)).1.y : Int) == (-1)) && ((((rdP f ((wrP f ⟨u1_, s, a, (-1), (-1), (-1)⟩).1) (max (u1_ - h_) 0)).1.z : Int) == (-1)) && true))) && true))))) (by kernel_rfl) (by kernel_rfl) (by kernel_rfl) (by kernel_rfl) (by kernel_rfl) (by kernel_rfl) ?_
   refine Rn 2 (Qo B22 2046 12) [Qs B22 2047] ⟨108, [(6, VB false), (14, I6 ((rdP (f + 1) ((wrP f ⟨u1_, s, a, (-1), (-1), (-1)⟩).1) (max (u1_ - h_) 0)).2)), (101, VB ((((rdP f ((wrP f ⟨u1_, s, a, (-1), (-1), (-1)⟩).1) (max (u1_ - h_) 0)).1.u : Int) == u1_) && ((((rdP f ((wrP f ⟨u1_, s, a, (-1), (-1), (-1)⟩).1) (max (u1_ - h_) 0)).1.s : Int) == s) && ((((rdP f ((wrP f ⟨u1_, s, a, (-1), (-1), (-1)⟩).1) (max (u1_ - h_) 0)).1.a : Int) == a) && (((((rdP f ((wrP f ⟨u1_, s, a, (-1), (-1), (-1)⟩).1) (max (u1_ - h_) 0)).1.x : Int) == (-1)) && ((((rdP f ((wrP f ⟨u1_, s, a, (-1), (-1), (-1)⟩).1) (max (u1_ - h_) 0)).1.y : Int) == (-1)) && ((((rdP f ((wrP f ⟨u1_, s, a, (-1), (-1), (-1)⟩).1) (max (u1_ - h_) 0)).1.z : Int) == (-1)) && true))) && true)))))], []⟩ ?_
   refine X.isTrue 101 rfl (by rw [hr1_]; simp) ?_
   refine Rn 4 (Qo B22 2046 16) [Qs B22 2047] ⟨108, [(6, VB false), (105, VB (((rdP (f + 1) ((wrP f ⟨u1_, s, a, (-1), (-1), (-1)⟩).1) (max (u1_ - h_) 0)).2) == 5))], []⟩ ?_
   refine X.isTrue 105 rfl (by rw [hr2_]; rfl) ?_
   refine Cg 77 [] 0 (works38_ok _) ?_
   rintro v12 G12 rows12 hG12 ⟨rfl, rfl⟩
   replace hr7 := hr7.mono hG12.le
   refine Rn 5 (.ex .ret) [] ⟨108, [(6, VB true)], []⟩ ?_
   refine Dg (.inl rfl) [.bool true] [] rfl (((((hG6.trans hG7).trans hG10).trans hG11).trans hG12)) ?_
   exact ⟨rfl, rfl⟩
 ·
  replace h5 : ¬ (min (min x1_ y1_) z1_ < 0) := of_decide_eq_false h5
  have hb_ : (0 ≤ x1_ ∧ x1_ ≤ 16777215) ∧ (0 ≤ y1_ ∧ y1_ ≤ 16777215) ∧ (0 ≤ z1_ ∧ z1_ ≤ 16777215) ∨ x1_ = -1 ∧ y1_ = -1 ∧ z1_ = -1 := by omega
  refine Rn 7 (Qo B22 62 2) [Qs B22 63] ⟨108, [(0, I1 f), (2, .v (.int .i32 near)), (4, .own 4 0), (6, VB false), (48, I6 (IntKind.i64.wrap f))], [(4, ⟨103, [I6 u1_, I3 s, I8 a, I6 x1_, I6 y1_, I6 z1_]⟩)]⟩ ?_
  refine Kn 48 .i64 f rfl (wi64 (by omega) (by omega)) ?_
  refine Rn 1 (Qo B22 62 3) [Qs B22 63] ⟨108, [(0, I1 f), (2, .v (.int .i32 near)), (4, .own 4 0), (6, VB false), (48, I6 f), (49, .v (.agg #[N6 u1_, N3 s, N8 a, N6 x1_, N6 y1_, N6 z1_]))], [(4, ⟨103, [I6 u1_, I3 s, I8 a, I6 x1_, I6 y1_, I6 z1_]⟩)]⟩ ?_
  refine Cg 73 [N6 f, .agg #[N6 u1_, N3 s, N8 a, N6 x1_, N6 y1_, N6 z1_]] 720 (Write_ok f u1_ s a x1_ y1_ z1_ _ (by omega) (by omega) (by omega) (by omega) (by omega)) ?_
  rintro v13 G13 rows13 hG13 ⟨A13, c13, rfl, rfl⟩
  refine X.asR (R' := [(720, RR 5 1 A13 ((wrP f ⟨u1_, s, a, x1_, y1_, z1_⟩).1.length) c13 (((wrP f ⟨u1_, s, a, x1_, y1_, z1_⟩).1).map (Value.int .u8)))]) rfl ?_
  refine X.tellR [720] (R' := [(720, RR 5 1 A13 ((wrP f ⟨u1_, s, a, x1_, y1_, z1_⟩).1.length) c13 (((wrP f ⟨u1_, s, a, x1_, y1_, z1_⟩).1).map (Value.int .u8)))]) rfl ?_
  refine X.capLe (i := 720) (q := (RR 5 1 A13 ((wrP f ⟨u1_, s, a, x1_, y1_, z1_⟩).1.length) c13 (((wrP f ⟨u1_, s, a, x1_, y1_, z1_⟩).1).map (Value.int .u8)))) (n := (wrP f ⟨u1_, s, a, x1_, y1_, z1_⟩).1.length) (c := c13) (A := A13) rfl rfl ?_
  intro hle14 hmx14
  refine X.freezeHd (i := 720) (n := (wrP f ⟨u1_, s, a, x1_, y1_, z1_⟩).1.length) (c := c13) (A := A13) (kd := .u8) ((wrP f ⟨u1_, s, a, x1_, y1_, z1_⟩).1) rfl rfl (fun x_ hx_ => by have h_ := encS_bytes exW_ok (hdW_ok (by omega)) x_ hx_; simp only [IntKind.lo, IntKind.hi]; omega) (by kernel_rfl) (fun _ h => h) ?_
  intro G14 hG14 hr14
  refine Rn 15 (Qc B22 253) [Qs B22 127] ⟨108, [(0, I1 f), (2, .v (.int .i32 near)), (4, .own 4 0), (6, VB false), (8, VL A13 ((wrP f ⟨u1_, s, a, x1_, y1_, z1_⟩).1.length) c13), (9, I6 ((wrP f ⟨u1_, s, a, x1_, y1_, z1_⟩).2)), (55, VB (decide (a > 7)))], [(4, ⟨103, [I6 u1_, I3 s, I8 a, I6 x1_, I6 y1_, I6 z1_]⟩)]⟩ ?_
  refine X.split 55 rfl (fun h15 => ?_) (fun h15 => ?_)
  ·
   replace h15 : a > 7 := of_decide_eq_true h15
   have hw_ : wrP f ⟨u1_, s, a, x1_, y1_, z1_⟩ = ([], 2) := wrP_range (k := ⟨u1_, s, a, x1_, y1_, z1_⟩) hs (show 7 < a by omega)
   refine Rn 6 (Qo B22 1012 3) [Qs B22 1013, Qs B22 127] ⟨108, [(0, I1 f), (2, .v (.int .i32 near)), (4, .own 4 0), (6, VB false), (8, VL A13 ((wrP f ⟨u1_, s, a, x1_, y1_, z1_⟩).1.length) c13), (9, I6 ((wrP f ⟨u1_, s, a, x1_, y1_, z1_⟩).2)), (58, VB (((wrP f ⟨u1_, s, a, x1_, y1_, z1_⟩).2) == 2))], [(4, ⟨103, [I6 u1_, I3 s, I8 a, I6 x1_, I6 y1_, I6 z1_]⟩)]⟩ ?_
   refine X.isTrue 58 rfl (by rw [hw_]; rfl) ?_
   refine Rn 5 (Qo B22 1012 8) [Qs B22 1013, Qs B22 127] ⟨108, [(0, I1 f), (2, .v (.int .i32 near)), (4, .own 4 0), (6, VB false), (8, VL A13 ((wrP f ⟨u1_, s, a, x1_, y1_, z1_⟩).1.length) c13), (9, I6 ((wrP f ⟨u1_, s, a, x1_, y1_, z1_⟩).2)), (63, VB ((((wrP f ⟨u1_, s, a, x1_, y1_, z1_⟩).1.length : Nat) : Int) == 0))], [(4, ⟨103, [I6 u1_, I3 s, I8 a, I6 x1_, I6 y1_, I6 z1_]⟩)]⟩ ?_
   refine X.isTrue 63 rfl (by rw [hw_]; rfl) ?_
   refine Cg 77 [] 0 (works38_ok _) ?_
   rintro v16 G16 rows16 hG16 ⟨rfl, rfl⟩
   replace hr14 := hr14.mono hG16.le
   refine Rn 6 (.ex .ret) [] ⟨108, [(6, VB true)], []⟩ ?_
   refine Dg (.inl rfl) [.bool true] [] rfl (((hG13.trans hG14).trans hG16)) ?_
   exact ⟨rfl, rfl⟩
  ·
   replace h15 : ¬ (a > 7) := of_decide_eq_false h15
   have hw2_ : (wrP f ⟨u1_, s, a, x1_, y1_, z1_⟩).2 = 0 := (wrP_back (k := ⟨u1_, s, a, x1_, y1_, z1_⟩) hs (show 0 ≤ a ∧ a ≤ 7 by omega)).1
   obtain ⟨h_, hh_⟩ : ∃ z_, Int.tdiv near 2 = z_ := ⟨_, rfl⟩
   have hhr_ := half hn
   rw [hh_] at hhr_
   obtain ⟨hr1_, hr2_⟩ := path_back (f := f) (last := max (u1_ - h_) 0) (k := ⟨u1_, s, a, x1_, y1_, z1_⟩) hs (show 0 ≤ a ∧ a ≤ 7 by omega) (by omega) (show -2147483648 ≤ u1_ - max (u1_ - h_) 0 ∧ u1_ - max (u1_ - h_) 0 ≤ 2147483647 by omega) hb_
   refine Rn 9 (Qo B22 254 4) [Qs B22 255] ⟨108, [(0, I1 f), (4, .own 4 0), (6, VB false), (8, VL A13 ((wrP f ⟨u1_, s, a, x1_, y1_, z1_⟩).1.length) c13), (9, I6 ((wrP f ⟨u1_, s, a, x1_, y1_, z1_⟩).2)), (67, I6 u1_), (69, .v (.int .i32 (IntKind.i32.wrap (Int.tdiv near 2))))], [(4, ⟨103, [I6 u1_, I3 s, I8 a, I6 x1_, I6 y1_, I6 z1_]⟩)]⟩ ?_
   refine Kn 69 .i32 h_ rfl (by rw [hh_]; exact wi32 (by omega) (by omega)) ?_
   refine Rn 1 (Qo B22 254 5) [Qs B22 255] ⟨108, [(0, I1 f), (4, .own 4 0), (6, VB false), (8, VL A13 ((wrP f ⟨u1_, s, a, x1_, y1_, z1_⟩).1.length) c13), (9, I6 ((wrP f ⟨u1_, s, a, x1_, y1_, z1_⟩).2)), (67, I6 u1_), (70, I6 (IntKind.i64.wrap h_))], [(4, ⟨103, [I6 u1_, I3 s, I8 a, I6 x1_, I6 y1_, I6 z1_]⟩)]⟩ ?_
   refine Kn 70 .i64 h_ rfl (wi64 (by omega) (by omega)) ?_
   refine Rn 1 (Qo B22 254 6) [Qs B22 255] ⟨108, [(0, I1 f), (4, .own 4 0), (6, VB false), (8, VL A13 ((wrP f ⟨u1_, s, a, x1_, y1_, z1_⟩).1.length) c13), (9, I6 ((wrP f ⟨u1_, s, a, x1_, y1_, z1_⟩).2)), (71, I6 (IntKind.i64.wrap (u1_ - h_)))], [(4, ⟨103, [I6 u1_, I3 s, I8 a, I6 x1_, I6 y1_, I6 z1_]⟩)]⟩ ?_
   refine Kn 71 .i64 (u1_ - h_) rfl (wi64 (by omega) (by omega)) ?_
   refine Rn 1 (Qo B22 254 7) [Qs B22 255] ⟨108, [(0, I1 f), (4, .own 4 0), (6, VB false), (8, VL A13 ((wrP f ⟨u1_, s, a, x1_, y1_, z1_⟩).1.length) c13), (9, I6 ((wrP f ⟨u1_, s, a, x1_, y1_, z1_⟩).2)), (72, I6 (imax (u1_ - h_) 0))], [(4, ⟨103, [I6 u1_, I3 s, I8 a, I6 x1_, I6 y1_, I6 z1_]⟩)]⟩ ?_
   refine Kn 72 .i64 (max (u1_ - h_) 0) rfl (by simp only [imin_eq, imax_eq]) ?_
   refine Rn 7 (Qo B22 510 2) [Qs B22 511] ⟨108, [(0, I1 f), (4, .own 4 0), (6, VB false), (8, VL A13 ((wrP f ⟨u1_, s, a, x1_, y1_, z1_⟩).1.length) c13), (9, I6 ((wrP f ⟨u1_, s, a, x1_, y1_, z1_⟩).2)), (10, I6 (max (u1_ - h_) 0)), (75, I6 (IntKind.i64.wrap f))], [(4, ⟨103, [I6 u1_, I3 s, I8 a, I6 x1_, I6 y1_, I6 z1_]⟩)]⟩ ?_
   refine Kn 75 .i64 f rfl (wi64 (by omega) (by omega)) ?_
   refine Rn 2 (Qo B22 510 4) [Qs B22 511] ⟨108, [(0, I1 f), (4, .own 4 0), (6, VB false), (8, VL A13 ((wrP f ⟨u1_, s, a, x1_, y1_, z1_⟩).1.length) c13), (9, I6 ((wrP f ⟨u1_, s, a, x1_, y1_, z1_⟩).2)), (10, I6 (max (u1_ - h_) 0)), (75, I6 f), (76, VL A13 ((wrP f ⟨u1_, s, a, x1_, y1_, z1_⟩).1.length) c13), (77, I6 (max (u1_ - h_) 0))], [(4, ⟨103, [I6 u1_, I3 s, I8 a, I6 x1_, I6 y1_, I6 z1_]⟩)]⟩ ?_
   refine Cg 75 [N6 f, .slice A13 ((wrP f ⟨u1_, s, a, x1_, y1_, z1_⟩).1.length) c13, N6 (max (u1_ - h_) 0)] 0 (Read_okP f (max (u1_ - h_) 0) A13 c13 ((wrP f ⟨u1_, s, a, x1_, y1_, z1_⟩).1) _ hr14 hle14 hmx14) ?_
   rintro v17 G17 rows17 hG17 ⟨rfl, rfl⟩
   replace hr14 := hr14.mono hG17.le
   refine Rn 12 (Qo B22 1022 2) [Qs B22 1023] ⟨108, [(4, .own 4 0), (6, VB false), (8, VL A13 ((wrP f ⟨u1_, s, a, x1_, y1_, z1_⟩).1.length) c13), (9, I6 ((wrP f ⟨u1_, s, a, x1_, y1_, z1_⟩).2)), (10, I6 (max (u1_ - h_) 0)), (11, .own 11 0), (12, I6 ((rdP f ((wrP f ⟨u1_, s, a, x1_, y1_, z1_⟩).1) (max (u1_ - h_) 0)).2)), (83, I6 (IntKind.i64.wrap f))], [(4, ⟨103, [I6 u1_, I3 s, I8 a, I6 x1_, I6 y1_, I6 z1_]⟩), (11, ⟨103, [I6 ((rdP f ((wrP f ⟨u1_, s, a, x1_, y1_, z1_⟩).1) (max (u1_ - h_) 0)).1.u), I3 ((rdP f ((wrP f ⟨u1_, s, a, x1_, y1_, z1_⟩).1) (max (u1_ - h_) 0)).1.s), I8 ((rdP f ((wrP f ⟨u1_, s, a, x1_, y1_, z1_⟩).1) (max (u1_ - h_) 0)).1.a), I6 ((rdP f ((wrP f ⟨u1_, s, a, x1_, y1_, z1_⟩).1) (max (u1_ - h_) 0)).1.x), I6 ((rdP f ((wrP f ⟨u1_, s, a, x1_, y1_, z1_⟩).1) (max (u1_ - h_) 0)).1.y), I6 ((rdP f ((wrP f ⟨u1_, s, a, x1_, y1_, z1_⟩).1) (max (u1_ - h_) 0)).1.z)]⟩)]⟩ ?_
   refine Kn 83 .i64 f rfl (wi64 (by omega) (by omega)) ?_
   refine Rn 1 (Qo B22 1022 3) [Qs B22 1023] ⟨108, [(4, .own 4 0), (6, VB false), (8, VL A13 ((wrP f ⟨u1_, s, a, x1_, y1_, z1_⟩).1.length) c13), (9, I6 ((wrP f ⟨u1_, s, a, x1_, y1_, z1_⟩).2)), (10, I6 (max (u1_ - h_) 0)), (11, .own 11 0), (12, I6 ((rdP f ((wrP f ⟨u1_, s, a, x1_, y1_, z1_⟩).1) (max (u1_ - h_) 0)).2)), (84, I6 (IntKind.i64.wrap (f + 1)))], [(4, ⟨103, [I6 u1_, I3 s, I8 a, I6 x1_, I6 y1_, I6 z1_]⟩), (11, ⟨103, [I6 ((rdP f ((wrP f ⟨u1_, s, a, x1_, y1_, z1_⟩).1) (max (u1_ - h_) 0)).1.u), I3 ((rdP f ((wrP f ⟨u1_, s, a, x1_, y1_, z1_⟩).1) (max (u1_ - h_) 0)).1.s), I8 ((rdP f ((wrP f ⟨u1_, s, a, x1_, y1_, z1_⟩).1) (max (u1_ - h_) 0)).1.a), I6 ((rdP f ((wrP f ⟨u1_, s, a, x1_, y1_, z1_⟩).1) (max (u1_ - h_) 0)).1.x), I6 ((rdP f ((wrP f ⟨u1_, s, a, x1_, y1_, z1_⟩).1) (max (u1_ - h_) 0)).1.y), I6 ((rdP f ((wrP f ⟨u1_, s, a, x1_, y1_, z1_⟩).1) (max (u1_ - h_) 0)).1.z)]⟩)]⟩ ?_
   refine Kn 84 .i64 (f + 1) rfl (wi64 (by omega) (by omega)) ?_
   refine Rn 2 (Qo B22 1022 5) [Qs B22 1023] ⟨108, [(4, .own 4 0), (6, VB false), (9, I6 ((wrP f ⟨u1_, s, a, x1_, y1_, z1_⟩).2)), (11, .own 11 0), (12, I6 ((rdP f ((wrP f ⟨u1_, s, a, x1_, y1_, z1_⟩).1) (max (u1_ - h_) 0)).2)), (84, I6 (f + 1)), (85, VL A13 ((wrP f ⟨u1_, s, a, x1_, y1_, z1_⟩).1.length) c13), (86, I6 (max (u1_ - h_) 0))], [(4, ⟨103, [I6 u1_, I3 s, I8 a, I6 x1_, I6 y1_, I6 z1_]⟩), (11, ⟨103, [I6 ((rdP f ((wrP f ⟨u1_, s, a, x1_, y1_, z1_⟩).1) (max (u1_ - h_) 0)).1.u), I3 ((rdP f ((wrP f ⟨u1_, s, a, x1_, y1_, z1_⟩).1) (max (u1_ - h_) 0)).1.s), I8 ((rdP f ((wrP f ⟨u1_, s, a, x1_, y1_, z1_⟩).1) (max (u1_ - h_) 0)).1.a), I6 ((rdP f ((wrP f ⟨u1_, s, a, x1_, y1_, z1_⟩).1) (max (u1_ - h_) 0)).1.x), I6 ((rdP f ((wrP f ⟨u1_, s, a, x1_, y1_, z1_⟩).1) (max (u1_ - h_) 0)).1.y), I6 ((rdP f ((wrP f ⟨u1_, s, a, x1_, y1_, z1_⟩).1) (max (u1_ - h_) 0)).1.z)]⟩)]⟩ ?_
   refine Cg 75 [N6 (f + 1), .slice A13 ((wrP f ⟨u1_, s, a, x1_, y1_, z1_⟩).1.length) c13, N6 (max (u1_ - h_) 0)] 0 (Read_okP (f + 1) (max (u1_ - h_) 0) A13 c13 ((wrP f ⟨u1_, s, a, x1_, y1_, z1_⟩).1) _ hr14 hle14 hmx14) ?_
   rintro v18 G18 rows18 hG18 ⟨rfl, rfl⟩
   replace hr14 := hr14.mono hG18.le
   refine Rn 13 (Qo B22 2046 3) [Qs B22 2047] ⟨108, [(4, .own 4 0), (6, VB false), (11, .own 11 0), (12, I6 ((rdP f ((wrP f ⟨u1_, s, a, x1_, y1_, z1_⟩).1) (max (u1_ - h_) 0)).2)), (14, I6 ((rdP (f + 1) ((wrP f ⟨u1_, s, a, x1_, y1_, z1_⟩).1) (max (u1_ - h_) 0)).2)), (92, VB (((wrP f ⟨u1_, s, a, x1_, y1_, z1_⟩).2) == 0))], [(4, ⟨103, [I6 u1_, I3 s, I8 a, I6 x1_, I6 y1_, I6 z1_]⟩), (11, ⟨103, [I6 ((rdP f ((wrP f ⟨u1_, s, a, x1_, y1_, z1_⟩).1) (max (u1_ - h_) 0)).1.u), I3 ((rdP f ((wrP f ⟨u1_, s, a, x1_, y1_, z1_⟩).1) (max (u1_ - h_) 0)).1.s), I8 ((rdP f ((wrP f ⟨u1_, s, a, x1_, y1_, z1_⟩).1) (max (u1_ - h_) 0)).1.a), I6 ((rdP f ((wrP f ⟨u1_, s, a, x1_, y1_, z1_⟩).1) (max (u1_ - h_) 0)).1.x), I6 ((rdP f ((wrP f ⟨u1_, s, a, x1_, y1_, z1_⟩).1) (max (u1_ - h_) 0)).1.y), I6 ((rdP f ((wrP f ⟨u1_, s, a, x1_, y1_, z1_⟩).1) (max (u1_ - h_) 0)).1.z)]⟩)]⟩ ?_
   refine X.isTrue 92 rfl (by rw [hw2_]; rfl) ?_
   refine Rn 4 (Qo B22 2046 7) [Qs B22 2047] ⟨108, [(4, .own 4 0), (6, VB false), (11, .own 11 0), (14, I6 ((rdP (f + 1) ((wrP f ⟨u1_, s, a, x1_, y1_, z1_⟩).1) (max (u1_ - h_) 0)).2)), (96, VB (((rdP f ((wrP f ⟨u1_, s, a, x1_, y1_, z1_⟩).1) (max (u1_ - h_) 0)).2) == 0))], [(4, ⟨103, [I6 u1_, I3 s, I8 a, I6 x1_, I6 y1_, I6 z1_]⟩), (11, ⟨103, [I6 ((rdP f ((wrP f ⟨u1_, s, a, x1_, y1_, z1_⟩).1) (max (u1_ - h_) 0)).1.u), I3 ((rdP f ((wrP f ⟨u1_, s, a, x1_, y1_, z1_⟩).1) (max (u1_ - h_) 0)).1.s), I8 ((rdP f ((wrP f ⟨u1_, s, a, x1_, y1_, z1_⟩).1) (max (u1_ - h_) 0)).1.a), I6 ((rdP f ((wrP f ⟨u1_, s, a, x1_, y1_, z1_⟩).1) (max (u1_ - h_) 0)).1.x), I6 ((rdP f ((wrP f ⟨u1_, s, a, x1_, y1_, z1_⟩).1) (max (u1_ - h_) 0)).1.y), I6 ((rdP f ((wrP f ⟨u1_, s, a, x1_, y1_, z1_⟩).1) (max (u1_ - h_) 0)).1.z)]⟩)]⟩ ?_
   refine X.isTrue 96 rfl (by rw [hr1_]; rfl) ?_
   refine Rn 2 (Qo B22 2046 9) [Qs B22 2047] ⟨108, [(6, VB false), (14, I6 ((rdP (f + 1) ((wrP f ⟨u1_, s, a, x1_, y1_, z1_⟩).1) (max (u1_ - h_) 0)).2)), (96, VB true), (97, .v (.agg #[N6 ((rdP f ((wrP f ⟨u1_, s, a, x1_, y1_, z1_⟩).1) (max (u1_ - h_) 0)).1.u), N3 ((rdP f ((wrP f ⟨u1_, s, a, x1_, y1_, z1_⟩).1) (max (u1_ - h_) 0)).1.s), N8 ((rdP f ((wrP f ⟨u1_, s, a, x1_, y1_, z1_⟩).1) (max (u1_ - h_) 0)).1.a), N6 ((rdP f ((wrP f ⟨u1_, s, a, x1_, y1_, z1_⟩).1) (max (u1_ - h_) 0)).1.x), N6 ((rdP f ((wrP f ⟨u1_, s, a, x1_, y1_, z1_⟩).1) (max (u1_ - h_) 0)).1.y), N6 ((rdP f ((wrP f ⟨u1_, s, a, x1_, y1_, z1_⟩).1) (max (u1_ - h_) 0)).1.z)])), (98, .v (.agg #[N6 u1_, N3 s, N8 a, N6 x1_, N6 y1_, N6 z1_]))], []⟩ ?_
   refine X.eqV (t := 103) (t' := 103) (x := .tmp 97) (y := .tmp 98) (xs := #[N6 ((rdP f ((wrP f ⟨u1_, s, a, x1_, y1_, z1_⟩).1) (max (u1_ - h_) 0)).1.u), N3 ((rdP f ((wrP f ⟨u1_, s, a, x1_, y1_, z1_⟩).1) (max (u1_ - h_) 0)).1.s), N8 ((rdP f ((wrP f ⟨u1_, s, a, x1_, y1_, z1_⟩).1) (max (u1_ - h_) 0)).1.a), N6 ((rdP f ((wrP f ⟨u1_, s, a, x1_, y1_, z1_⟩).1) (max (u1_ - h_) 0)).1.x), N6 ((rdP f ((wrP f ⟨u1_, s, a, x1_, y1_, z1_⟩).1) (max (u1_ - h_) 0)).1.y), N6 ((rdP f ((wrP f ⟨u1_, s, a, x1_, y1_, z1_⟩).1) (max (u1_ - h_) 0)).1.z)]) (ys := #[N6 u1_, N3 s, N8 a, N6 x1_, N6 y1_, N6 z1_]) (b := ((((rdP f ((wrP f ⟨u1_, s, a, x1_, y1_, z1_⟩).1) (max (u1_ - h_) 0)).1.u : Int) == u1_) && ((((rdP f ((wrP f ⟨u1_, s, a, x1_, y1_, z1_⟩).1) (max (u1_ - h_) 0)).1.s : Int) == s) && ((((rdP f ((wrP f ⟨u1_, s, a, x1_, y1_, z1_⟩).1) (max (u1_ - h_) 0)).1.a : Int) == a) && (((((rdP f ((wrP f ⟨u1_, s, a, x1_, y1_, z1_⟩).1) (max (u1_ - h_) 0)).1.x : Int) == x1_) && ((((rdP f ((wrP f ⟨u1_, s, a, x1_, y1_, z1_⟩).1) (max (u1_ - h_) 0)).1.y : Int) == y1_) && ((((rdP f ((wrP f ⟨u1_, s, a, x1_, y1_, z1_⟩).1) (max (u1_ - h_) 0)).1.z : Int) == z1_) && true))) && true))))) (by kernel_rfl) (by kernel_rfl) (by kernel_rfl) (by kernel_rfl) (by kernel_rfl) (by kernel_rfl) ?_
   refine Rn 2 (Qo B22 2046 12) [Qs B22 2047] ⟨108, [(6, VB false), (14, I6 ((rdP (f + 1) ((wrP f ⟨u1_, s, a, x1_, y1_, z1_⟩).1) (max (u1_ - h_) 0)).2)), (101, VB ((((rdP f ((wrP f ⟨u1_, s, a, x1_, y1_, z1_⟩).1) (max (u1_ - h_) 0)).1.u : Int) == u1_) && ((((rdP f ((wrP f ⟨u1_, s, a, x1_, y1_, z1_⟩).1) (max (u1_ - h_) 0)).1.s : Int) == s) && ((((rdP f ((wrP f ⟨u1_, s, a, x1_, y1_, z1_⟩).1) (max (u1_ - h_) 0)).1.a : Int) == a) && (((((rdP f ((wrP f ⟨u1_, s, a, x1_, y1_, z1_⟩).1) (max (u1_ - h_) 0)).1.x : Int) == x1_) && ((((rdP f ((wrP f ⟨u1_, s, a, x1_, y1_, z1_⟩).1) (max (u1_ - h_) 0)).1.y : Int) == y1_) && ((((rdP f ((wrP f ⟨u1_, s, a, x1_, y1_, z1_⟩).1) (max (u1_ - h_) 0)).1.z : Int) == z1_) && true))) && true)))))], []⟩ ?_
   refine X.isTrue 101 rfl (by rw [hr1_]; simp) ?_
   refine Rn 4 (Qo B22 2046 16) [Qs B22 2047] ⟨108, [(6, VB false), (105, VB (((rdP (f + 1) ((wrP f ⟨u1_, s, a, x1_, y1_, z1_⟩).1) (max (u1_ - h_) 0)).2) == 5))], []⟩ ?_
   refine X.isTrue 105 rfl (by rw [hr2_]; rfl) ?_
   refine Cg 77 [] 0 (works38_ok _) ?_
   rintro v19 G19 rows19 hG19 ⟨rfl, rfl⟩
   replace hr14 := hr14.mono hG19.le
   refine Rn 5 (.ex .ret) [] ⟨108, [(6, VB true)], []⟩ ?_
   refine Dg (.inl rfl) [.bool true] [] rfl (((((hG13.trans hG14).trans hG17).trans hG18).trans hG19)) ?_
   exact ⟨rfl, rfl⟩
end Go.Proofs.YtjgpdbkkpomhjaaX
