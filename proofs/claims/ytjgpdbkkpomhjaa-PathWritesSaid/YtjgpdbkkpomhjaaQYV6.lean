/- A part of a law's proof. Conditions: none. -/
import Derived.Test.YtjgpdbkkpomhjaaProg
import Derived.KernelRfl
import Derived.Test.YtjgpdbkkpomhjaaQYV5
import Derived.Test.YtjgpdbkkpomhjaaQYT
namespace Go.Proofs.YtjgpdbkkpomhjaaX
open Go.RowKit
open Go.Proofs.YtjgpdbkkpomhjaaW.PrintLast
set_option linter.unusedVariables false
set_option linter.unusedSimpArgs false
set_option maxRecDepth 100000
noncomputable def B132 : Code := bodyOf Try.f132
noncomputable def B77 : Code := bodyOf Try.f77
set_option maxHeartbeats 1000000 in
theorem works38_ok (G : Mem) : CallsG Try.prog 77 [] G (fun _ v rows => v = .bool true ∧ rows = []) := by
 refine CallsG.enter Try.func77 rfl rfl ?_
 intro w
 refine Rn 7 (Qo B77 6 0) [Qs B77 7] ⟨39, [(0, VB false)], []⟩ ?_
 refine Lt 8 2 1 2 [N6 5, N6 (-1)] ?_
 intro A1
 refine X.inline (f := 132) (l := [VL A1 2 2, I6 0]) (fn := Try.f132) (c := B132) (by kernel_rfl) (by kernel_rfl) Try.func132 (by kernel_rfl) ?_
 intro Q2 M2 hM2 hQ2 fin2
 refine Ra 25 (Qo B132 14 6) 0 [Qs B132 15] [(4, I6 0), (5, VB false), (10, VL A1 2 2), (15, I6 0)] ?_
 refine Ix 157 2 1 A1 2 2 .i64 0 (.tmp 10) (.tmp 15) (by omega) (by omega) (Bs 8 rfl) ?_
 have at5 : At G [(8, ⟨2, 1, .slice A1 2 2, 2, [.int .i64 5, .int .i64 (-1)]⟩)] A1 (0 * 1) [.int .i64 5] := (At.of_row (i := 8) (r := ⟨2, 1, .slice A1 2 2, 2, [.int .i64 5, .int .i64 (-1)]⟩) rfl rfl).part 0 1
 refine Ra 0 (Qo B132 14 7) 0 [] [(16, .v (elt A1 (0 * 1)))] ?_
 have at6 : At G [(8, ⟨2, 1, .slice A1 2 2, 2, [.int .i64 5, .int .i64 (-1)]⟩)] A1 (0 * 1) [.int .i64 5] := (At.of_row (i := 8) (r := ⟨2, 1, .slice A1 2 2, 2, [.int .i64 5, .int .i64 (-1)]⟩) rfl rfl).part 0 1
 refine Ld 2 A1 (0 * 1) (.tmp 16) (N6 5) [N6 5] at6 ?_
 refine Rn 22 (.ex .ret) [] ⟨22, [(4, I6 5), (5, VB false)], []⟩ ?_
 refine fin2 _ _ _ _ [N6 5, .bool false] [] (.inl rfl) (by kernel_rfl) (by kernel_rfl) ?_
 refine Ra 9 (Qo B77 14 0) 1 [Qs B77 15] [(1, I6 5), (2, VB false)] ?_
 refine Lt 13 2 1 2 [N6 5, N6 (-1)] ?_
 intro A7
 refine X.inline (f := 132) (l := [VL A7 2 2, I6 1]) (fn := Try.f132) (c := B132) (by kernel_rfl) (by kernel_rfl) Try.func132 (by kernel_rfl) ?_
 intro Q8 M8 hM8 hQ8 fin8
 refine Ra 25 (Qo B132 14 6) 0 [Qs B132 15] [(4, I6 0), (5, VB false), (10, VL A7 2 2), (15, I6 1)] ?_
 refine Ix 157 2 1 A7 2 2 .i64 1 (.tmp 10) (.tmp 15) (by omega) (by omega) (Bs 13 rfl) ?_
 have at11 : At G [(13, ⟨2, 1, .slice A7 2 2, 2, [.int .i64 5, .int .i64 (-1)]⟩), (8, ⟨2, 1, .slice A1 2 2, 2, [.int .i64 5, .int .i64 (-1)]⟩)] A7 (1 * 1) [.int .i64 (-1)] := (At.of_row (i := 13) (r := ⟨2, 1, .slice A7 2 2, 2, [.int .i64 5, .int .i64 (-1)]⟩) rfl rfl).part 1 1
 refine Ra 0 (Qo B132 14 7) 0 [] [(16, .v (elt A7 (1 * 1)))] ?_
 have at12 : At G [(13, ⟨2, 1, .slice A7 2 2, 2, [.int .i64 5, .int .i64 (-1)]⟩), (8, ⟨2, 1, .slice A1 2 2, 2, [.int .i64 5, .int .i64 (-1)]⟩)] A7 (1 * 1) [.int .i64 (-1)] := (At.of_row (i := 13) (r := ⟨2, 1, .slice A7 2 2, 2, [.int .i64 5, .int .i64 (-1)]⟩) rfl rfl).part 1 1
 refine Ld 2 A7 (1 * 1) (.tmp 16) (N6 (-1)) [N6 (-1)] at12 ?_
 refine Rn 19 (.ex .ret) [] ⟨22, [(4, I6 0), (5, VB true)], []⟩ ?_
 refine fin8 _ _ _ _ [N6 0, .bool true] [] (.inl rfl) (by kernel_rfl) (by kernel_rfl) ?_
 refine Ra 9 (Qo B77 30 0) 1 [Qs B77 31] [(4, VB true)] ?_
 refine Lt 18 2 1 2 [N6 5, N6 (-1)] ?_
 intro A13
 refine X.inline (f := 132) (l := [VL A13 2 2, I6 2]) (fn := Try.f132) (c := B132) (by kernel_rfl) (by kernel_rfl) Try.func132 (by kernel_rfl) ?_
 intro Q14 M14 hM14 hQ14 fin14
 refine Ra 25 (Qo B132 14 6) 0 [Qs B132 15] [(4, I6 0), (5, VB false), (10, VL A13 2 2), (15, I6 0)] ?_
 refine Ix 157 2 1 A13 2 2 .i64 0 (.tmp 10) (.tmp 15) (by omega) (by omega) (Bs 18 rfl) ?_
 have at17 : At G [(18, ⟨2, 1, .slice A13 2 2, 2, [.int .i64 5, .int .i64 (-1)]⟩), (13, ⟨2, 1, .slice A7 2 2, 2, [.int .i64 5, .int .i64 (-1)]⟩), (8, ⟨2, 1, .slice A1 2 2, 2, [.int .i64 5, .int .i64 (-1)]⟩)] A13 (0 * 1) [.int .i64 5] := (At.of_row (i := 18) (r := ⟨2, 1, .slice A13 2 2, 2, [.int .i64 5, .int .i64 (-1)]⟩) rfl rfl).part 0 1
 refine Ra 0 (Qo B132 14 7) 0 [] [(16, .v (elt A13 (0 * 1)))] ?_
 have at18 : At G [(18, ⟨2, 1, .slice A13 2 2, 2, [.int .i64 5, .int .i64 (-1)]⟩), (13, ⟨2, 1, .slice A7 2 2, 2, [.int .i64 5, .int .i64 (-1)]⟩), (8, ⟨2, 1, .slice A1 2 2, 2, [.int .i64 5, .int .i64 (-1)]⟩)] A13 (0 * 1) [.int .i64 5] := (At.of_row (i := 18) (r := ⟨2, 1, .slice A13 2 2, 2, [.int .i64 5, .int .i64 (-1)]⟩) rfl rfl).part 0 1
 refine Ld 2 A13 (0 * 1) (.tmp 16) (N6 5) [N6 5] at18 ?_
 refine Rn 22 (.ex .ret) [] ⟨22, [(4, I6 5), (5, VB false)], []⟩ ?_
 refine fin14 _ _ _ _ [N6 5, .bool false] [] (.inl rfl) (by kernel_rfl) (by kernel_rfl) ?_
 refine Rn 30 (.ex .ret) [] ⟨39, [(0, VB true)], []⟩ ?_
 refine Dg (.inl rfl) [.bool true] [] rfl (Ge.refl _ _) ?_
 exact ⟨rfl, rfl⟩
noncomputable def B21 : Code := bodyOf Try.f21
set_option maxHeartbeats 2000000 in
theorem PathWrites_ok (f u s a x y z : Int) (A : Option Addr) (c : Nat) (b : List Int) (G : Mem) (hs : 0 ≤ s ∧ s ≤ 4294967295) (ha : 0 ≤ a ∧ a ≤ 255) (hx : (-9223372036854775808 ≤ x ∧ x ≤ 9223372036854775807)) (hy : (-9223372036854775808 ≤ y ∧ y ≤ 9223372036854775807)) (hz : (-9223372036854775808 ≤ z ∧ z ≤ 9223372036854775807)) (hb : rowAt (D.int .u8) G A b) (hle : b.length ≤ c) (hmx : c ≤ maxLen) : CallsG Try.prog 21 [.int .i64 f, .agg #[.int .i64 u, .int .u32 s, .int .u8 a, .int .i64 x, .int .i64 y, .int .i64 z], .slice A b.length c] G (fun _ v rows => v = .bool true ∧ rows = []) := by
 simp only [maxLen] at hmx
 refine CallsG.enter Try.func21 rfl rfl ?_
 intro w
 refine Rn 12 (Qo B21 6 4) [Qs B21 7] ⟨71, [(0, I6 f), (2, VL A b.length c), (4, .own 4 0), (6, VB false), (15, VL A b.length c), (18, I6 (imin (b.length : Int) 100))], [(4, ⟨103, [I6 u, I3 s, I8 a, I6 x, I6 y, I6 z]⟩)]⟩ ?_
 refine Kn 18 .i64 (min (b.length : Int) 100) rfl (by simp only [imin_eq, imax_eq]) ?_
 have hlo1 : 0 ≤ (min ((b.length : Nat) : Int) 100).toNat := by omega
 have hhi1 : (min ((b.length : Nat) : Int) 100).toNat ≤ b.length := by omega
 refine X.cut (t := 22) (e := 5) (sz := 1) (n := b.length) (c := c) (A := A) (x := .tmp 15) (l := none) (h := (some (.tmp 18))) (lv := none) (hv := (some (N6 (min (b.length : Int) 100)))) 0 ((min (b.length : Int) 100).toNat) (by kernel_rfl) (by kernel_rfl) (by kernel_rfl) (by kernel_rfl) (by kernel_rfl) (by kernel_rfl) (by kernel_rfl) (rfl) (⟨_, _, rfl, by omega, rfl⟩) hlo1 (Nat.le_trans hhi1 hle) ?_
 obtain ⟨A1, hA1⟩ : ∃ A_, cutA A c 0 1 = A_ := ⟨_, rfl⟩
 obtain ⟨ys1, hys1⟩ : ∃ l_, (b.take ((min ((b.length : Nat) : Int) 100).toNat)).drop 0 = l_ := ⟨_, rfl⟩
 have hr1 : rowAt (D.int .u8) G (cutA A c 0 1) ((b.take ((min ((b.length : Nat) : Int) 100).toNat)).drop 0) := rowAt_cut hb hlo1 hhi1 hle
 have hl1 : ((min ((b.length : Nat) : Int) 100).toNat) - 0 = ys1.length := by rw [← hys1, List.length_drop, List.length_take]; omega
 have hc1 : ys1.length ≤ c - 0 := by omega
 have hm1 : c - 0 ≤ maxLen := Nat.le_trans (Nat.sub_le _ _) hmx
 rw [hys1, show cutA A c 0 _ = A1 from hA1] at hr1
 rw [hA1, hl1]
 refine Ra 7 (Qo B21 14 2) 1 [Qs B21 15] [(2, VL A1 ys1.length (c - 0)), (21, I6 f), (22, .v (.agg #[N6 u, N3 s, N8 a, N6 x, N6 y, N6 z]))] ?_
 refine Cg 73 [N6 f, .agg #[N6 u, N3 s, N8 a, N6 x, N6 y, N6 z]] 720 (Write_ok f u s a x y z _ (by omega) (by omega) (by omega) (by omega) (by omega)) ?_
 rintro v2 G2 rows2 hG2 ⟨A2, c2, rfl, rfl⟩
 replace hb := hb.mono hG2.le
 replace hr1 := hr1.mono hG2.le
 refine Tr [720] ?_
 refine X.capLe (i := 720) rfl rfl ?_
 intro hle3 hmx3
 refine X.freezeHd (i := 720) (n := (wrP f ⟨u, s, a, x, y, z⟩).1.length) (c := c2) (A := A2) (kd := .u8) ((wrP f ⟨u, s, a, x, y, z⟩).1) rfl rfl (fun x_ hx_ => by have h_ := encS_bytes exW_ok (hdW_ok (by omega)) x_ hx_; simp only [IntKind.lo, IntKind.hi]; omega) (by kernel_rfl) (fun _ h => h) ?_
 intro G3 hG3 hr3
 replace hb := hb.mono hG3.le
 replace hr1 := hr1.mono hG3.le
 refine Ra 11 (Qo B21 30 2) 1 [Qs B21 31] [(7, VL A2 ((wrP f ⟨u, s, a, x, y, z⟩).1.length) c2), (8, I6 ((wrP f ⟨u, s, a, x, y, z⟩).2)), (27, I6 f), (28, .v (.agg #[N6 u, N3 s, N8 a, N6 x, N6 y, N6 z]))] ?_
 refine Cg 74 [N6 f, .agg #[N6 u, N3 s, N8 a, N6 x, N6 y, N6 z]] 721 (RWrite_ok f u s a x y z _ (by omega) (by omega) (by omega) (by omega) (by omega)) ?_
 rintro v4 G4 rows4 hG4 ⟨A4, c4, rfl, rfl⟩
 replace hb := hb.mono hG4.le
 replace hr1 := hr1.mono hG4.le
 replace hr3 := hr3.mono hG4.le
 refine Tr [721] ?_
 refine X.capLe (i := 721) rfl rfl ?_
 intro hle5 hmx5
 refine X.freezeHd (i := 721) (n := (wrP f ⟨u, s, a, x, y, z⟩).1.length) (c := c4) (A := A4) (kd := .u8) ((wrP f ⟨u, s, a, x, y, z⟩).1) rfl rfl (fun x_ hx_ => by have h_ := encS_bytes exW_ok (hdW_ok (by omega)) x_ hx_; simp only [IntKind.lo, IntKind.hi]; omega) (by kernel_rfl) (fun _ h => h) ?_
 intro G5 hG5 hr5
 replace hb := hb.mono hG5.le
 replace hr1 := hr1.mono hG5.le
 replace hr3 := hr3.mono hG5.le
 refine Ra 13 (Qo B21 62 4) 1 [Qs B21 63] [(9, VL A4 ((wrP f ⟨u, s, a, x, y, z⟩).1.length) c4), (10, I6 ((wrP f ⟨u, s, a, x, y, z⟩).2)), (33, I6 f), (34, VL A1 ys1.length (c - 0)), (36, I6 u)] ?_
 refine Cg 75 [N6 f, .slice A1 ys1.length (c - 0), N6 u] 0 (Read_okP f u A1 (c - 0) ys1 _ hr1 hc1 hm1) ?_
 rintro v6 G6 rows6 hG6 ⟨rfl, rfl⟩
 replace hb := hb.mono hG6.le
 replace hr1 := hr1.mono hG6.le
 replace hr3 := hr3.mono hG6.le
 replace hr5 := hr5.mono hG6.le
 refine Rb 14 (Qo B21 126 4) 1 [Qs B21 127] [(11, .own 11 0), (12, I6 ((rdP f ys1 u).2)), (41, I6 f), (42, VL A1 ys1.length (c - 0)), (44, I6 u)] [2] [(11, ⟨103, [I6 ((rdP f ys1 u).1.u), I3 ((rdP f ys1 u).1.s), I8 ((rdP f ys1 u).1.a), I6 ((rdP f ys1 u).1.x), I6 ((rdP f ys1 u).1.y), I6 ((rdP f ys1 u).1.z)]⟩)] [4] ?_
 refine Cg 76 [N6 f, .slice A1 ys1.length (c - 0), N6 u] 0 (RRead_ok f u A1 (c - 0) ys1 _ hr1 hc1 hm1) ?_
 rintro v7 G7 rows7 hG7 ⟨rfl, rfl⟩
 replace hb := hb.mono hG7.le
 replace hr1 := hr1.mono hG7.le
 replace hr3 := hr3.mono hG7.le
 replace hr5 := hr5.mono hG7.le
 refine Rb 11 (Qo B21 254 1) 1 [Qs B21 255] [(13, .own 13 0), (14, I6 ((rdP f ys1 u).2)), (48, VL A2 ((wrP f ⟨u, s, a, x, y, z⟩).1.length) c2)] [7] [(13, ⟨103, [I6 ((rdP f ys1 u).1.u), I3 ((rdP f ys1 u).1.s), I8 ((rdP f ys1 u).1.a), I6 ((rdP f ys1 u).1.x), I6 ((rdP f ys1 u).1.y), I6 ((rdP f ys1 u).1.z)]⟩)] [] ?_
 refine X.toStrW (src := 22) (dst := 9) (e := 5) (n := (wrP f ⟨u, s, a, x, y, z⟩).1.length) (c := c2) (A := A2) (x := .tmp 48) ((wrP f ⟨u, s, a, x, y, z⟩).1) (by kernel_rfl) (by kernel_rfl) (by kernel_rfl) (by kernel_rfl) (by kernel_rfl) rfl (at_ints [] hr3) (fun w hw e => rowAt.none hr3 e) (by kernel_rfl) ?_
 refine Rc 1 (Qo B21 254 3) 0 [] [(49, VT (strOf ((wrP f ⟨u, s, a, x, y, z⟩).1))), (50, VL A4 ((wrP f ⟨u, s, a, x, y, z⟩).1.length) c4)] [9] ?_
 refine X.toStrW (src := 22) (dst := 9) (e := 5) (n := (wrP f ⟨u, s, a, x, y, z⟩).1.length) (c := c4) (A := A4) (x := .tmp 50) ((wrP f ⟨u, s, a, x, y, z⟩).1) (by kernel_rfl) (by kernel_rfl) (by kernel_rfl) (by kernel_rfl) (by kernel_rfl) rfl (at_ints [] hr5) (fun w hw e => rowAt.none hr5 e) (by kernel_rfl) ?_
 refine Ra 2 (Qo B21 254 6) 0 [] [(53, VB ((strOf ((wrP f ⟨u, s, a, x, y, z⟩).1)).toList == (strOf ((wrP f ⟨u, s, a, x, y, z⟩).1)).toList))] ?_
 refine X.isTrue 53 rfl (by simp) ?_
 refine Rc 5 (Qo B21 254 11) 0 [] [(58, VB (((wrP f ⟨u, s, a, x, y, z⟩).2) == ((wrP f ⟨u, s, a, x, y, z⟩).2)))] [8, 10] ?_
 refine X.isTrue 58 rfl (by simp) ?_
 refine Rb 2 (Qo B21 254 13) 0 [] [(58, VB true), (59, .v (.agg #[N6 ((rdP f ys1 u).1.u), N3 ((rdP f ys1 u).1.s), N8 ((rdP f ys1 u).1.a), N6 ((rdP f ys1 u).1.x), N6 ((rdP f ys1 u).1.y), N6 ((rdP f ys1 u).1.z)])), (60, .v (.agg #[N6 ((rdP f ys1 u).1.u), N3 ((rdP f ys1 u).1.s), N8 ((rdP f ys1 u).1.a), N6 ((rdP f ys1 u).1.x), N6 ((rdP f ys1 u).1.y), N6 ((rdP f ys1 u).1.z)]))] [] [] [11, 13] ?_
 refine X.eqV (t := 103) (t' := 103) (x := .tmp 59) (y := .tmp 60) (xs := #[N6 ((rdP f ys1 u).1.u), N3 ((rdP f ys1 u).1.s), N8 ((rdP f ys1 u).1.a), N6 ((rdP f ys1 u).1.x), N6 ((rdP f ys1 u).1.y), N6 ((rdP f ys1 u).1.z)]) (ys := #[N6 ((rdP f ys1 u).1.u), N3 ((rdP f ys1 u).1.s), N8 ((rdP f ys1 u).1.a), N6 ((rdP f ys1 u).1.x), N6 ((rdP f ys1 u).1.y), N6 ((rdP f ys1 u).1.z)]) (b := ((((rdP f ys1 u).1.u : Int) == ((rdP f ys1 u).1.u)) && ((((rdP f ys1 u).1.s : Int) == ((rdP f ys1 u).1.s)) && ((((rdP f ys1 u).1.a : Int) == ((rdP f ys1 u).1.a)) && (((((rdP f ys1 u).1.x : Int) == ((rdP f ys1 u).1.x)) && ((((rdP f ys1 u).1.y : Int) == ((rdP f ys1 u).1.y)) && ((((rdP f ys1 u).1.z : Int) == ((rdP f ys1 u).1.z)) && true))) && true))))) (by kernel_rfl) (by kernel_rfl) (by kernel_rfl) (by kernel_rfl) (by kernel_rfl) (by kernel_rfl) ?_
 refine Ra 2 (Qo B21 254 16) 0 [] [(63, VB ((((rdP f ys1 u).1.u : Int) == ((rdP f ys1 u).1.u)) && ((((rdP f ys1 u).1.s : Int) == ((rdP f ys1 u).1.s)) && ((((rdP f ys1 u).1.a : Int) == ((rdP f ys1 u).1.a)) && (((((rdP f ys1 u).1.x : Int) == ((rdP f ys1 u).1.x)) && ((((rdP f ys1 u).1.y : Int) == ((rdP f ys1 u).1.y)) && ((((rdP f ys1 u).1.z : Int) == ((rdP f ys1 u).1.z)) && true))) && true)))))] ?_
 refine X.isTrue 63 rfl (by simp) ?_
 refine Rc 5 (Qo B21 254 21) 0 [] [(68, VB (((rdP f ys1 u).2) == ((rdP f ys1 u).2)))] [12, 14] ?_
 refine X.isTrue 68 rfl (by simp) ?_
 refine Cg 77 [] 0 (works38_ok _) ?_
 rintro v8 G8 rows8 hG8 ⟨rfl, rfl⟩
 replace hb := hb.mono hG8.le
 replace hr1 := hr1.mono hG8.le
 replace hr3 := hr3.mono hG8.le
 replace hr5 := hr5.mono hG8.le
 refine Rn 5 (.ex .ret) [] ⟨71, [(6, VB true)], []⟩ ?_
 refine Dg (.inl rfl) [.bool true] [] rfl (((((((hG2.trans hG3).trans hG4).trans hG5).trans hG6).trans hG7).trans hG8)) ?_
 exact ⟨rfl, rfl⟩
end Go.Proofs.YtjgpdbkkpomhjaaX
