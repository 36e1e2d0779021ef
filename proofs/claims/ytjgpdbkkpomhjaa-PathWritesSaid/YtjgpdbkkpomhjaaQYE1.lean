/- A part of a law's proof. Conditions: none. -/
import Derived.Test.YtjgpdbkkpomhjaaProg
import Derived.KernelRfl
import Derived.Test.YtjgpdbkkpomhjaaQYI2
import Derived.Test.YtjgpdbkkpomhjaaQYT
namespace Go.Proofs.YtjgpdbkkpomhjaaX
open Go.RowKit
open Go.Proofs.YtjgpdbkkpomhjaaW.PrintLast
set_option linter.unusedVariables false
set_option linter.unusedSimpArgs false
set_option maxRecDepth 100000
def putN : Int → Nat → List Int
 | _, 0 => []
 | x, n + 1 => putN (IntKind.u32.wrap (Int.tdiv x 256)) n ++ [IntKind.u8.wrap (Int.tmod x 256)]
noncomputable def B98 : Code := bodyOf Try.f98
set_option maxHeartbeats 1000000 in
theorem put0_ok (x : Int) (G : Mem) : CallsG Try.prog 98 [.int .u32 x, .int .i64 0] G (fun _ v rows => v = .slice none 0 0 ∧ rows = []) := by
 refine CallsG.enter Try.func98 rfl rfl ?_
 intro w
 refine Rn 20 (.ex .ret) [] ⟨17, [(4, VL none 0 0)], []⟩ ?_
 refine Dg (.inl rfl) [.slice none 0 0] [] rfl (Ge.refl _ _) ?_
 exact ⟨rfl, rfl⟩
set_option maxHeartbeats 1000000 in
theorem put1_ok (x : Int) (G : Mem) : CallsG Try.prog 98 [.int .u32 x, .int .i64 1] G (fun _ v rows => ∃ A c, v = .slice A 1 c ∧ rows = [⟨5, 1, .slice A 1 c, 1, (putN x 1).map (Value.int .u8)⟩]) := by
 refine CallsG.enter Try.func98 rfl rfl ?_
 intro w
 refine Rn 21 (Qo B98 14 4) [Qs B98 15] ⟨17, [(0, I3 x), (4, VL none 0 0), (8, I3 (IntKind.u32.wrap (Int.tdiv x 256))), (10, I6 0)], []⟩ ?_
 refine Cg 98 [N3 (IntKind.u32.wrap (Int.tdiv x 256)), N6 0] 311 (put0_ok (IntKind.u32.wrap (Int.tdiv x 256)) _) ?_
 rintro v1 G1 rows1 hG1 ⟨rfl, rfl⟩
 refine Ra 3 (Qo B98 14 8) 0 [] [(11, VL none 0 0), (14, I8 (IntKind.u8.wrap (Int.tmod x 256)))] ?_
 refine Lt 15 5 1 1 [N8 (IntKind.u8.wrap (Int.tmod x 256))] ?_
 intro A2
 refine Ra 0 (Qo B98 14 9) 0 [] [(15, VL A2 1 1)] ?_
 refine Ap 16 (RR 5 1 none 0 0 []) 22 1 (N8 0) (.tmp 11) (.tmp 15) 0 0 1 1 none A2 [N8 (IntKind.u8.wrap (Int.tmod x 256))] (.inr ⟨rfl, rfl, rfl, rfl⟩) (by kernel_rfl) (Ar 15 rfl) (Br 15 rfl) (ones (by kernel_rfl)) (by decide) ?_
 intro A3 c3 hc3
 refine Tr [16, 15] ?_
 refine Rn 4 (.ex .ret) [] ⟨17, [(4, VL A3 1 c3)], []⟩ ?_
 refine Dg (.inl rfl) [.slice A3 1 c3] [16] rfl (hG1) ?_
 exact ⟨_, _, rfl, rfl⟩
set_option maxHeartbeats 1000000 in
theorem put2_ok (x : Int) (G : Mem) : CallsG Try.prog 98 [.int .u32 x, .int .i64 2] G (fun _ v rows => ∃ A c, v = .slice A 2 c ∧ rows = [⟨5, 1, .slice A 2 c, 2, (putN x 2).map (Value.int .u8)⟩]) := by
 refine CallsG.enter Try.func98 rfl rfl ?_
 intro w
 refine Rn 21 (Qo B98 14 4) [Qs B98 15] ⟨17, [(0, I3 x), (4, VL none 0 0), (8, I3 (IntKind.u32.wrap (Int.tdiv x 256))), (10, I6 1)], []⟩ ?_
 refine Cg 98 [N3 (IntKind.u32.wrap (Int.tdiv x 256)), N6 1] 311 (put1_ok (IntKind.u32.wrap (Int.tdiv x 256)) _) ?_
 rintro v1 G1 rows1 hG1 ⟨A1, c1, rfl, rfl⟩
 refine Ra 3 (Qo B98 14 8) 0 [] [(11, VL A1 1 c1), (14, I8 (IntKind.u8.wrap (Int.tmod x 256)))] ?_
 refine Lt 15 5 1 1 [N8 (IntKind.u8.wrap (Int.tmod x 256))] ?_
 intro A2
 refine Ra 0 (Qo B98 14 9) 0 [] [(15, VL A2 1 1)] ?_
 refine Ap 311 _ 22 1 (N8 0) (.tmp 11) (.tmp 15) 1 c1 1 1 A1 A2 [N8 (IntKind.u8.wrap (Int.tmod x 256))] (.inl rfl) (by kernel_rfl) (Ar 15 rfl) (Br 15 rfl) (ones (by kernel_rfl)) (by decide) ?_
 intro A3 c3 hc3
 refine Tr [311, 15] ?_
 refine Rn 4 (.ex .ret) [] ⟨17, [(4, VL A3 2 c3)], []⟩ ?_
 refine Dg (.inl rfl) [.slice A3 2 c3] [311] rfl (hG1) ?_
 exact ⟨_, _, rfl, rfl⟩
set_option maxHeartbeats 1000000 in
theorem put3_ok (x : Int) (G : Mem) : CallsG Try.prog 98 [.int .u32 x, .int .i64 3] G (fun _ v rows => ∃ A c, v = .slice A 3 c ∧ rows = [⟨5, 1, .slice A 3 c, 3, (putN x 3).map (Value.int .u8)⟩]) := by
 refine CallsG.enter Try.func98 rfl rfl ?_
 intro w
 refine Rn 21 (Qo B98 14 4) [Qs B98 15] ⟨17, [(0, I3 x), (4, VL none 0 0), (8, I3 (IntKind.u32.wrap (Int.tdiv x 256))), (10, I6 2)], []⟩ ?_
 refine Cg 98 [N3 (IntKind.u32.wrap (Int.tdiv x 256)), N6 2] 311 (put2_ok (IntKind.u32.wrap (Int.tdiv x 256)) _) ?_
 rintro v1 G1 rows1 hG1 ⟨A1, c1, rfl, rfl⟩
 refine Ra 3 (Qo B98 14 8) 0 [] [(11, VL A1 2 c1), (14, I8 (IntKind.u8.wrap (Int.tmod x 256)))] ?_
 refine Lt 15 5 1 1 [N8 (IntKind.u8.wrap (Int.tmod x 256))] ?_
 intro A2
 refine Ra 0 (Qo B98 14 9) 0 [] [(15, VL A2 1 1)] ?_
 refine Ap 311 _ 22 1 (N8 0) (.tmp 11) (.tmp 15) 2 c1 1 1 A1 A2 [N8 (IntKind.u8.wrap (Int.tmod x 256))] (.inl rfl) (by kernel_rfl) (Ar 15 rfl) (Br 15 rfl) (ones (by kernel_rfl)) (by decide) ?_
 intro A3 c3 hc3
 refine Tr [311, 15] ?_
 refine Rn 4 (.ex .ret) [] ⟨17, [(4, VL A3 3 c3)], []⟩ ?_
 refine Dg (.inl rfl) [.slice A3 3 c3] [311] rfl (hG1) ?_
 exact ⟨_, _, rfl, rfl⟩
set_option maxHeartbeats 1000000 in
theorem put4_ok (x : Int) (G : Mem) : CallsG Try.prog 98 [.int .u32 x, .int .i64 4] G (fun _ v rows => ∃ A c, v = .slice A 4 c ∧ rows = [⟨5, 1, .slice A 4 c, 4, (putN x 4).map (Value.int .u8)⟩]) := by
 refine CallsG.enter Try.func98 rfl rfl ?_
 intro w
 refine Rn 21 (Qo B98 14 4) [Qs B98 15] ⟨17, [(0, I3 x), (4, VL none 0 0), (8, I3 (IntKind.u32.wrap (Int.tdiv x 256))), (10, I6 3)], []⟩ ?_
 refine Cg 98 [N3 (IntKind.u32.wrap (Int.tdiv x 256)), N6 3] 311 (put3_ok (IntKind.u32.wrap (Int.tdiv x 256)) _) ?_
 rintro v1 G1 rows1 hG1 ⟨A1, c1, rfl, rfl⟩
 refine Ra 3 (Qo B98 14 8) 0 [] [(11, VL A1 3 c1), (14, I8 (IntKind.u8.wrap (Int.tmod x 256)))] ?_
 refine Lt 15 5 1 1 [N8 (IntKind.u8.wrap (Int.tmod x 256))] ?_
 intro A2
 refine Ra 0 (Qo B98 14 9) 0 [] [(15, VL A2 1 1)] ?_
 refine Ap 311 _ 22 1 (N8 0) (.tmp 11) (.tmp 15) 3 c1 1 1 A1 A2 [N8 (IntKind.u8.wrap (Int.tmod x 256))] (.inl rfl) (by kernel_rfl) (Ar 15 rfl) (Br 15 rfl) (ones (by kernel_rfl)) (by decide) ?_
 intro A3 c3 hc3
 refine Tr [311, 15] ?_
 refine Rn 4 (.ex .ret) [] ⟨17, [(4, VL A3 4 c3)], []⟩ ?_
 refine Dg (.inl rfl) [.slice A3 4 c3] [311] rfl (hG1) ?_
 exact ⟨_, _, rfl, rfl⟩
def ref11 (s0 s1 s2 s3 s4 s5 s6 s7 s8 s9 : Int) : List Int := [IntKind.u8.wrap (Int.tmod (IntKind.u32.wrap (Int.tdiv (IntKind.u32.wrap s0) 256)) 256), IntKind.u8.wrap (Int.tmod (IntKind.u32.wrap s0) 256), IntKind.u8.wrap (Int.tmod (IntKind.u32.wrap (Int.tdiv (IntKind.u32.wrap s1) 256)) 256), IntKind.u8.wrap (Int.tmod (IntKind.u32.wrap s1) 256), IntKind.u8.wrap (Int.tmod (IntKind.u32.wrap (Int.tdiv (IntKind.u32.wrap (Int.tdiv (IntKind.u32.wrap (Int.tdiv s2 256)) 256)) 256)) 256), IntKind.u8.wrap (Int.tmod (IntKind.u32.wrap (Int.tdiv (IntKind.u32.wrap (Int.tdiv s2 256)) 256)) 256), IntKind.u8.wrap (Int.tmod (IntKind.u32.wrap (Int.tdiv s2 256)) 256), IntKind.u8.wrap (Int.tmod s2 256), IntKind.u8.wrap (Int.tmod (IntKind.u32.wrap (Int.tdiv (IntKind.u32.wrap (Int.tdiv (IntKind.u32.wrap (Int.tdiv s3 256)) 256)) 256)) 256), IntKind.u8.wrap (Int.tmod (IntKind.u32.wrap (Int.tdiv (IntKind.u32.wrap (Int.tdiv s3 256)) 256)) 256), IntKind.u8.wrap (Int.tmod (IntKind.u32.wrap (Int.tdiv s3 256)) 256), IntKind.u8.wrap (Int.tmod s3 256), IntKind.u8.wrap ((IntKind.u8.wrap (s4 * 16)) + (IntKind.u8.wrap (Int.tdiv s5 4))), IntKind.u8.wrap ((IntKind.u8.wrap ((Int.tmod s5 4) * 64)) + s6), IntKind.u8.wrap (Int.tmod (IntKind.u32.wrap (Int.tdiv (IntKind.u32.wrap s7) 256)) 256), IntKind.u8.wrap (Int.tmod (IntKind.u32.wrap s7) 256), IntKind.u8.wrap (Int.tmod (IntKind.u32.wrap (Int.tdiv (IntKind.u32.wrap s8) 256)) 256), IntKind.u8.wrap (Int.tmod (IntKind.u32.wrap s8) 256), IntKind.u8.wrap (Int.tmod (IntKind.u32.wrap (Int.tdiv (IntKind.u32.wrap s9) 256)) 256), IntKind.u8.wrap (Int.tmod (IntKind.u32.wrap s9) 256)]
noncomputable def B33 : Code := bodyOf Try.f33
set_option maxHeartbeats 4000000 in
theorem Ref11_ok (s0 s1 s2 s3 s4 s5 s6 s7 s8 s9 : Int) (G : Mem) : CallsG Try.prog 33 [.agg #[.int .u16 s0, .int .u16 s1, .int .u32 s2, .int .u32 s3, .int .u8 s4, .int .u8 s5, .int .u8 s6, .int .u16 s7, .int .u16 s8, .int .u16 s9]] G (fun _ v rows => ((5 ≤ s4 ∧ s4 ≤ 15 ∧ s5 ≤ 7 ∧ s6 ≤ 63) → ∃ A c, v = .tuple #[.slice A 20 c, .int .i64 0] ∧ rows = [⟨5, 1, .slice A 20 c, 20, (ref11 s0 s1 s2 s3 s4 s5 s6 s7 s8 s9).map (Value.int .u8)⟩]) ∧ (¬ (5 ≤ s4 ∧ s4 ≤ 15 ∧ s5 ≤ 7 ∧ s6 ≤ 63) → v = .tuple #[.slice none 0 0, .int .i64 2] ∧ rows = [])) := by
 refine CallsG.enter Try.func33 rfl rfl ?_
 intro w
 refine Rn 14 (Qo B33 12 4) [Qs B33 13, Qs B33 7] ⟨75, [(1, .own 1 0), (2, VL none 0 0), (3, I6 0), (8, VB (decide (s4 < 5)))], [(1, ⟨31, [I1 s0, I1 s1, I3 s2, I3 s3, I8 s4, I8 s5, I8 s6, I1 s7, I1 s8, I1 s9]⟩)]⟩ ?_
 refine Sd 8 rfl ?_ ?_ <;> intro h1
 ·
  refine Rn 25 (.ex .ret) [] ⟨75, [(2, VL none 0 0), (3, I6 2)], []⟩ ?_
  refine Dg (.inl rfl) [.slice none 0 0, N6 2] [] rfl (Ge.refl _ _) ?_
  first | exact ⟨fun h => absurd h (by omega), fun _ => ⟨rfl, rfl⟩⟩
 ·
  refine Ra 5 (Qo B33 12 9) 0 [] [(13, VB (decide (s4 > 15)))] ?_
  refine Sd 13 rfl ?_ ?_ <;> intro h2
  ·
   refine Rn 20 (.ex .ret) [] ⟨75, [(2, VL none 0 0), (3, I6 2)], []⟩ ?_
   refine Dg (.inl rfl) [.slice none 0 0, N6 2] [] rfl (Ge.refl _ _) ?_
   first | exact ⟨fun h => absurd h (by omega), fun _ => ⟨rfl, rfl⟩⟩
  ·
   refine Ra 5 (Qo B33 12 14) 0 [] [(18, VB (decide (s5 > 7)))] ?_
   refine Sd 18 rfl ?_ ?_ <;> intro h3
   ·
    refine Rn 15 (.ex .ret) [] ⟨75, [(2, VL none 0 0), (3, I6 2)], []⟩ ?_
    refine Dg (.inl rfl) [.slice none 0 0, N6 2] [] rfl (Ge.refl _ _) ?_
    first | exact ⟨fun h => absurd h (by omega), fun _ => ⟨rfl, rfl⟩⟩
   ·
    refine Ra 6 (Qc B33 13) 1 [] [(22, VB (decide (s6 > 63)))] ?_
    refine Sd 22 rfl ?_ ?_ <;> intro h4
    ·
     refine Rn 9 (.ex .ret) [] ⟨75, [(2, VL none 0 0), (3, I6 2)], []⟩ ?_
     refine Dg (.inl rfl) [.slice none 0 0, N6 2] [] rfl (Ge.refl _ _) ?_
     first | exact ⟨fun h => absurd h (by omega), fun _ => ⟨rfl, rfl⟩⟩
    ·
     refine Ra 4 (Qc B33 14) 1 [Qs B33 15] [] ?_
     refine Oh 3 B33 14 10 [⟨some 1, 1, 31, [I1 s0, I1 s1, I3 s2, I3 s3, I8 s4, I8 s5, I8 s6, I1 s7, I1 s8, I1 s9]⟩] [] [] ⟨P1, trivial⟩ Mt (fun ρ0 => ?_)
     refine Td [0, 1, 2, 4, 5, 6] 10 119 4 QOk.ctxG [(25, I3 (IntKind.u32.wrap s0)), (29, I3 (IntKind.u32.wrap s1))] ⟨P1, trivial⟩ ?_
     refine Do 3 10 127 B33 14 ?_
     refine Cg 98 [N3 (IntKind.u32.wrap s0), N6 2] 326 (put2_ok (IntKind.u32.wrap s0) _) ?_
     rintro v6 G6 rows6 hG6 ⟨A6, c6, rfl, rfl⟩
     refine X.back ⟨⟨P1, trivial⟩, hG6.le, rfl, ?_⟩
     refine Dn ⟨75, [(1, .own 1 0), (2, VL none 0 0), (3, I6 0), (26, VL A6 2 c6), (29, I3 (IntKind.u32.wrap s1))], [(1, ⟨31, [I1 s0, I1 s1, I3 s2, I3 s3, I8 s4, I8 s5, I8 s6, I1 s7, I1 s8, I1 s9]⟩)]⟩ ⟨P1, trivial⟩ ?_
     refine Do 7 10 255 B33 14 ?_
     refine Cg 98 [N3 (IntKind.u32.wrap s1), N6 2] 330 (put2_ok (IntKind.u32.wrap s1) _) ?_
     rintro v7 G7 rows7 hG7 ⟨A7, c7, rfl, rfl⟩
     refine X.back ⟨⟨P1, trivial⟩, (hG6.trans hG7).le, rfl, ?_⟩
     refine Do 8 10 511 B33 14 ?_
     refine Ap 326 _ 22 1 (N8 0) (.tmp 26) (.tmp 30) 2 c6 2 c7 A6 A7 [N8 (IntKind.u8.wrap (Int.tmod (IntKind.u32.wrap (Int.tdiv (IntKind.u32.wrap s1) 256)) 256)), N8 (IntKind.u8.wrap (Int.tmod (IntKind.u32.wrap s1) 256))] (.inl rfl) (by kernel_rfl) (Ar 330 rfl) (Br 330 rfl) (ones (by kernel_rfl)) (by decide) ?_
     intro A8 c8 hc8
     refine Tr [326, 330] ?_
     refine X.back ⟨⟨P1, trivial⟩, (hG6.trans hG7).le, rfl, ?_⟩
     refine Ts [9] 10 1023 0 1 QOk.ctxG ?_
     refine XD.done (by kernel_rfl) ?_
     refine Rn 2 (Qc B33 30) [Qs B33 31] ⟨75, [(1, .own 1 0), (2, VL none 0 0), (3, I6 0), (4, VL A8 4 c8)], [(1, ⟨31, [I1 s0, I1 s1, I3 s2, I3 s3, I8 s4, I8 s5, I8 s6, I1 s7, I1 s8, I1 s9]⟩)]⟩ ?_
     refine Oh 4 B33 30 10 [⟨some 1, 1, 31, [I1 s0, I1 s1, I3 s2, I3 s3, I8 s4, I8 s5, I8 s6, I1 s7, I1 s8, I1 s9]⟩] [] [] ⟨P1, trivial⟩ Mt (fun ρ0 => ?_)
     refine Td [0, 1, 2, 5, 6] 10 103 5 QOk.ctxG [(32, VL A8 4 c8), (34, I3 s2), (38, I3 s3)] ⟨P1, trivial⟩ ?_
     refine Do 3 10 111 B33 30 ?_
     refine Cg 98 [N3 s2, N6 4] 335 (put4_ok s2 _) ?_
     rintro v10 G10 rows10 hG10 ⟨A10, c10, rfl, rfl⟩
     refine X.back ⟨⟨P1, trivial⟩, hG10.le, rfl, ?_⟩
     refine Dn ⟨75, [(1, .own 1 0), (2, VL none 0 0), (3, I6 0), (4, VL A8 4 c8), (32, VL A8 4 c8), (35, VL A10 4 c10), (38, I3 s3)], [(1, ⟨31, [I1 s0, I1 s1, I3 s2, I3 s3, I8 s4, I8 s5, I8 s6, I1 s7, I1 s8, I1 s9]⟩)]⟩ ⟨P1, trivial⟩ ?_
     refine Do 4 10 127 B33 30 ?_
     refine Ap 326 _ 22 1 (N8 0) (.tmp 32) (.tmp 35) 4 c8 4 c10 A8 A10 [N8 (IntKind.u8.wrap (Int.tmod (IntKind.u32.wrap (Int.tdiv (IntKind.u32.wrap (Int.tdiv (IntKind.u32.wrap (Int.tdiv s2 256)) 256)) 256)) 256)), N8 (IntKind.u8.wrap (Int.tmod (IntKind.u32.wrap (Int.tdiv (IntKind.u32.wrap (Int.tdiv s2 256)) 256)) 256)), N8 (IntKind.u8.wrap (Int.tmod (IntKind.u32.wrap (Int.tdiv s2 256)) 256)), N8 (IntKind.u8.wrap (Int.tmod s2 256))] (.inl rfl) (by kernel_rfl) (Ar 335 rfl) (Br 335 rfl) (ones (by kernel_rfl)) (by decide) ?_
     intro A11 c11 hc11
     refine Tr [326, 335] ?_
     refine X.back ⟨⟨P1, trivial⟩, hG10.le, rfl, ?_⟩
     refine Do 7 10 255 B33 30 ?_
     refine Cg 98 [N3 s3, N6 4] 339 (put4_ok s3 _) ?_
     rintro v12 G12 rows12 hG12 ⟨A12, c12, rfl, rfl⟩
     refine X.back ⟨⟨P1, trivial⟩, (hG10.trans hG12).le, rfl, ?_⟩
     refine Do 8 10 511 B33 30 ?_
     refine Ap 326 _ 22 1 (N8 0) (.tmp 36) (.tmp 39) 8 c11 4 c12 A11 A12 [N8 (IntKind.u8.wrap (Int.tmod (IntKind.u32.wrap (Int.tdiv (IntKind.u32.wrap (Int.tdiv (IntKind.u32.wrap (Int.tdiv s3 256)) 256)) 256)) 256)), N8 (IntKind.u8.wrap (Int.tmod (IntKind.u32.wrap (Int.tdiv (IntKind.u32.wrap (Int.tdiv s3 256)) 256)) 256)), N8 (IntKind.u8.wrap (Int.tmod (IntKind.u32.wrap (Int.tdiv s3 256)) 256)), N8 (IntKind.u8.wrap (Int.tmod s3 256))] (.inl rfl) (by kernel_rfl) (Ar 339 rfl) (Br 339 rfl) (ones (by kernel_rfl)) (by decide) ?_
     intro A13 c13 hc13
     refine Tr [326, 339] ?_
     refine X.back ⟨⟨P1, trivial⟩, (hG10.trans hG12).le, rfl, ?_⟩
     refine Ts [9] 10 1023 0 1 QOk.ctxG ?_
     refine XD.done (by kernel_rfl) ?_
     refine Rn 18 (Qo B33 62 15) [Qs B33 63] ⟨75, [(1, .own 1 0), (2, VL none 0 0), (3, I6 0), (4, VL A13 12 c13), (41, VL A13 12 c13), (48, I8 (IntKind.u8.wrap ((IntKind.u8.wrap (s4 * 16)) + (IntKind.u8.wrap (Int.tdiv s5 4))))), (55, I8 (IntKind.u8.wrap ((IntKind.u8.wrap ((Int.tmod s5 4) * 64)) + s6)))], [(1, ⟨31, [I1 s0, I1 s1, I3 s2, I3 s3, I8 s4, I8 s5, I8 s6, I1 s7, I1 s8, I1 s9]⟩)]⟩ ?_
     refine Lt 56 5 1 2 [N8 (IntKind.u8.wrap ((IntKind.u8.wrap (s4 * 16)) + (IntKind.u8.wrap (Int.tdiv s5 4)))), N8 (IntKind.u8.wrap ((IntKind.u8.wrap ((Int.tmod s5 4) * 64)) + s6))] ?_
     intro A14
     refine Ra 0 (Qo B33 62 16) 0 [] [(56, VL A14 2 2)] ?_
     refine Ap 326 _ 22 1 (N8 0) (.tmp 41) (.tmp 56) 12 c13 2 2 A13 A14 [N8 (IntKind.u8.wrap ((IntKind.u8.wrap (s4 * 16)) + (IntKind.u8.wrap (Int.tdiv s5 4)))), N8 (IntKind.u8.wrap ((IntKind.u8.wrap ((Int.tmod s5 4) * 64)) + s6))] (.inl rfl) (by kernel_rfl) (Ar 56 rfl) (Br 56 rfl) (ones (by kernel_rfl)) (by decide) ?_
     intro A15 c15 hc15
     refine Tr [326, 56] ?_
     refine Ra 4 (Qc B33 126) 1 [Qs B33 127] [(4, VL A15 14 c15)] ?_
     refine Oh 6 B33 126 12 [⟨some 1, 1, 31, [I1 s0, I1 s1, I3 s2, I3 s3, I8 s4, I8 s5, I8 s6, I1 s7, I1 s8, I1 s9]⟩] [] [] ⟨P1, trivial⟩ Mt (fun ρ0 => ?_)
     refine Td [0, 1, 2, 3, 6, 7, 8] 12 463 5 QOk.ctxG [(58, VL A15 14 c15), (61, I3 (IntKind.u32.wrap s7)), (66, I3 (IntKind.u32.wrap s8))] ⟨P1, trivial⟩ ?_
     refine Do 4 12 479 B33 126 ?_
     refine Cg 98 [N3 (IntKind.u32.wrap s7), N6 2] 362 (put2_ok (IntKind.u32.wrap s7) _) ?_
     rintro v17 G17 rows17 hG17 ⟨A17, c17, rfl, rfl⟩
     refine X.back ⟨⟨P1, trivial⟩, hG17.le, rfl, ?_⟩
     refine Dn ⟨75, [(1, .own 1 0), (2, VL none 0 0), (3, I6 0), (4, VL A15 14 c15), (58, VL A15 14 c15), (62, VL A17 2 c17), (66, I3 (IntKind.u32.wrap s8))], [(1, ⟨31, [I1 s0, I1 s1, I3 s2, I3 s3, I8 s4, I8 s5, I8 s6, I1 s7, I1 s8, I1 s9]⟩)]⟩ ⟨P1, trivial⟩ ?_
     refine Do 5 12 511 B33 126 ?_
     refine Ap 326 _ 22 1 (N8 0) (.tmp 58) (.tmp 62) 14 c15 2 c17 A15 A17 [N8 (IntKind.u8.wrap (Int.tmod (IntKind.u32.wrap (Int.tdiv (IntKind.u32.wrap s7) 256)) 256)), N8 (IntKind.u8.wrap (Int.tmod (IntKind.u32.wrap s7) 256))] (.inl rfl) (by kernel_rfl) (Ar 362 rfl) (Br 362 rfl) (ones (by kernel_rfl)) (by decide) ?_
     intro A18 c18 hc18
     refine Tr [326, 362] ?_
     refine X.back ⟨⟨P1, trivial⟩, hG17.le, rfl, ?_⟩
     refine Do 9 12 1023 B33 126 ?_
     refine Cg 98 [N3 (IntKind.u32.wrap s8), N6 2] 367 (put2_ok (IntKind.u32.wrap s8) _) ?_
     rintro v19 G19 rows19 hG19 ⟨A19, c19, rfl, rfl⟩
     refine X.back ⟨⟨P1, trivial⟩, (hG17.trans hG19).le, rfl, ?_⟩
     refine Do 10 12 2047 B33 126 ?_
     refine Ap 326 _ 22 1 (N8 0) (.tmp 63) (.tmp 67) 16 c18 2 c19 A18 A19 [N8 (IntKind.u8.wrap (Int.tmod (IntKind.u32.wrap (Int.tdiv (IntKind.u32.wrap s8) 256)) 256)), N8 (IntKind.u8.wrap (Int.tmod (IntKind.u32.wrap s8) 256))] (.inl rfl) (by kernel_rfl) (Ar 367 rfl) (Br 367 rfl) (ones (by kernel_rfl)) (by decide) ?_
     intro A20 c20 hc20
     refine Tr [326, 367] ?_
     refine X.back ⟨⟨P1, trivial⟩, (hG17.trans hG19).le, rfl, ?_⟩
     refine Ts [11] 12 4095 0 1 QOk.ctxG ?_
     refine XD.done (by kernel_rfl) ?_
     refine Rn 7 (Qo B33 254 4) [Qs B33 255] ⟨75, [(2, VL none 0 0), (3, I6 0), (69, VL A20 18 c20), (72, I3 (IntKind.u32.wrap s9))], []⟩ ?_
     refine Cg 98 [N3 (IntKind.u32.wrap s9), N6 2] 373 (put2_ok (IntKind.u32.wrap s9) _) ?_
     rintro v21 G21 rows21 hG21 ⟨A21, c21, rfl, rfl⟩
     refine Ra 0 (Qo B33 254 5) 0 [] [(73, VL A21 2 c21)] ?_
     refine Ap 326 _ 22 1 (N8 0) (.tmp 69) (.tmp 73) 18 c20 2 c21 A20 A21 [N8 (IntKind.u8.wrap (Int.tmod (IntKind.u32.wrap (Int.tdiv (IntKind.u32.wrap s9) 256)) 256)), N8 (IntKind.u8.wrap (Int.tmod (IntKind.u32.wrap s9) 256))] (.inl rfl) (by kernel_rfl) (Ar 373 rfl) (Br 373 rfl) (ones (by kernel_rfl)) (by decide) ?_
     intro A22 c22 hc22
     refine Tr [326, 373] ?_
     refine Rn 5 (.ex .ret) [] ⟨75, [(2, VL A22 20 c22), (3, I6 0)], []⟩ ?_
     refine Dg (.inl rfl) [.slice A22 20 c22, N6 0] [326] rfl (((((((hG6.trans hG7).trans hG10).trans hG12).trans hG17).trans hG19).trans hG21)) ?_
     exact ⟨fun _ => ⟨_, _, rfl, rfl⟩, fun h => absurd (by omega) h⟩
theorem md8 {x : Int} (h0 : 0 ≤ x) : IntKind.u8.wrap (Int.tmod x 256) = x % 256 := by rw [Int.tmod_eq_emod_of_nonneg h0]; exact wu8 (by omega) (by omega)
theorem dv32 {x : Int} (h0 : 0 ≤ x) (h1 : x ≤ 4294967295) : IntKind.u32.wrap (Int.tdiv x 256) = x / 256 := by rw [Int.tdiv_eq_ediv_of_nonneg h0]; exact wu32 (by omega) (by omega)
theorem fbe2 {x : Int} (h0 : 0 ≤ x) (h1 : x ≤ 4294967295) : IntKind.u8.wrap (bshr .u32 x 8) = IntKind.u8.wrap (Int.tmod (IntKind.u32.wrap (Int.tdiv x 256)) 256) := by
 rw [sh8 8 h0, dv32 h0 h1, md8 (by omega)]
 simp only [Int.reducePow]
theorem be1 {x : Int} (h0 : 0 ≤ x) : IntKind.u8.wrap (bshr .u32 x 0) = IntKind.u8.wrap (Int.tmod x 256) := by
 rw [sh8 0 h0, md8 h0]
 simp
theorem fbe3 {x : Int} (h0 : 0 ≤ x) (h1 : x ≤ 4294967295) : IntKind.u8.wrap (bshr .u32 x 16) = IntKind.u8.wrap (Int.tmod (IntKind.u32.wrap (Int.tdiv (IntKind.u32.wrap (Int.tdiv x 256)) 256)) 256) := by
 rw [sh8 16 h0, dv32 h0 h1, dv32 (x := x / 256) (by omega) (by omega), md8 (by omega)]
 simp only [Int.reducePow]
 omega
theorem fbe4 {x : Int} (h0 : 0 ≤ x) (h1 : x ≤ 4294967295) : IntKind.u8.wrap (bshr .u32 x 24) = IntKind.u8.wrap (Int.tmod (IntKind.u32.wrap (Int.tdiv (IntKind.u32.wrap (Int.tdiv (IntKind.u32.wrap (Int.tdiv x 256)) 256)) 256)) 256) := by
 rw [sh8 24 h0, dv32 h0 h1, dv32 (x := x / 256) (by omega) (by omega), dv32 (x := x / 256 / 256) (by omega) (by omega), md8 (by omega)]
 simp only [Int.reducePow]
 omega
theorem off12 (a b : Int) (ha : 0 ≤ a ∧ a ≤ 15) (hb : 0 ≤ b ∧ b ≤ 7) : bor .u8 (bshl .u8 a 4) (bshr .u8 b 2) = IntKind.u8.wrap ((IntKind.u8.wrap (a * 16)) + (IntKind.u8.wrap (Int.tdiv b 4))) := by
 have key : ∀ m : Nat, m < 16 → ∀ n : Nat, n < 8 → (fun (s4 s5 : Int) => decide (bor .u8 (bshl .u8 s4 4) (bshr .u8 s5 2) = IntKind.u8.wrap ((IntKind.u8.wrap (s4 * 16)) + (IntKind.u8.wrap (Int.tdiv s5 4))))) (m : Int) (n : Int) = true := by decide +kernel
 have := key a.toNat (by omega) b.toNat (by omega)
 rw [show ((a.toNat : Nat) : Int) = a by omega, show ((b.toNat : Nat) : Int) = b by omega] at this
 exact of_decide_eq_true this
theorem off13 (b f : Int) (hb : 0 ≤ b ∧ b ≤ 7) (hf : 0 ≤ f ∧ f ≤ 63) : bor .u8 (bshl .u8 b 6) f = IntKind.u8.wrap ((IntKind.u8.wrap ((Int.tmod b 4) * 64)) + f) := by
 have key : ∀ m : Nat, m < 8 → ∀ n : Nat, n < 64 → (fun (s5 s6 : Int) => decide (bor .u8 (bshl .u8 s5 6) s6 = IntKind.u8.wrap ((IntKind.u8.wrap ((Int.tmod s5 4) * 64)) + s6))) (m : Int) (n : Int) = true := by decide +kernel
 have := key b.toNat (by omega) f.toNat (by omega)
 rw [show ((b.toNat : Nat) : Int) = b by omega, show ((f.toNat : Nat) : Int) = f by omega] at this
 exact of_decide_eq_true this
theorem encEq (s0 s1 s2 s3 s4 s5 s6 s7 s8 s9 : Int) (h0 : 0 ≤ s0 ∧ s0 ≤ 65535) (h1 : 0 ≤ s1 ∧ s1 ≤ 65535) (h2 : 0 ≤ s2 ∧ s2 ≤ 4294967295) (h3 : 0 ≤ s3 ∧ s3 ≤ 4294967295) (h4 : 0 ≤ s4 ∧ s4 ≤ 255) (h5 : 0 ≤ s5 ∧ s5 ≤ 255) (h6 : 0 ≤ s6 ∧ s6 ≤ 255) (h7 : 0 ≤ s7 ∧ s7 ≤ 65535) (h8 : 0 ≤ s8 ∧ s8 ≤ 65535) (h9 : 0 ≤ s9 ∧ s9 ≤ 65535) (hin : (5 ≤ s4 ∧ s4 ≤ 15 ∧ s5 ≤ 7 ∧ s6 ≤ 63)) : enc11 s0 s1 s2 s3 s4 s5 s6 s7 s8 s9 = ref11 s0 s1 s2 s3 s4 s5 s6 s7 s8 s9 := by
 have w16 : ∀ {x : Int}, 0 ≤ x → x ≤ 65535 → 0 ≤ IntKind.u32.wrap x ∧ IntKind.u32.wrap x ≤ 4294967295 := fun h0 h1 => by rw [wu32 h0 (by omega)]; omega
 have z0 := w16 h0.1 h0.2
 have z1 := w16 h1.1 h1.2
 have z7 := w16 h7.1 h7.2
 have z8 := w16 h8.1 h8.2
 have z9 := w16 h9.1 h9.2
 unfold enc11 ref11
 rw [off12 s4 s5 (by omega) (by omega), off13 s5 s6 (by omega) (by omega), fbe2 z0.1 z0.2, be1 z0.1, fbe2 z1.1 z1.2, be1 z1.1, fbe4 h2.1 h2.2, fbe3 h2.1 h2.2, fbe2 h2.1 h2.2, be1 h2.1, fbe4 h3.1 h3.2, fbe3 h3.1 h3.2, fbe2 h3.1 h3.2, be1 h3.1, fbe2 z7.1 z7.2, be1 z7.1, fbe2 z8.1 z8.2, be1 z8.1, fbe2 z9.1 z9.2, be1 z9.1]
theorem had_yes {xs : List Opt} {k : Int} {i : Nat} (hi : i < xs.length) (hk : (xs.getD i opt0).1 = k) (hz : 0 < szk k) : hadB xs k = true := by
 unfold hadB
 rw [decide_eq_true ⟨_, getD_mem hi, hk⟩, decide_eq_true hz]
 rfl
theorem had_no {xs : List Opt} {k : Int} (h : ∀ o ∈ xs, o.1 ≠ k) : hadB xs k = false := by
 unfold hadB
 rw [decide_eq_false (fun ⟨o, ho, hk⟩ => h o ho hk)]
 rfl
noncomputable def B112 : Code := bodyOf Try.f112
noncomputable def B121 : Code := bodyOf Try.f121
noncomputable def B110 : Code := bodyOf Try.f110
set_option maxHeartbeats 4000000 in
theorem rfine_ok (k1 : Int) (A : Option Addr) (ca : Nat) (xs : List Int) (s1 : ByteArray) (G : Mem) (hx : rowAt (D.int .u32) G A xs) (hxc : xs.length ≤ ca) (hxm : ca ≤ maxLen) : CallsG Try.prog 110 [.agg #[.int .i64 k1, .slice A xs.length ca, .string s1]] G (fun _ v rows => v = .bool (fineB (k1, xs, s1)) ∧ rows = []) := by
 simp only [maxLen] at hxm
 refine CallsG.enter Try.func110 rfl rfl ?_
 intro w
 refine Rn 13 (Qo B110 12 4) [Qs B110 13, Qs B110 7] ⟨57, [(1, .own 1 0), (2, VB false), (10, VB (decide (k1 < 2)))], [(1, ⟨65, [I6 k1, VL A xs.length ca, VT s1]⟩)]⟩ ?_
 refine Sd 10 rfl ?_ ?_ <;> intro h1
 ·
  refine Rn 14 (.ex .ret) [] ⟨57, [(2, VB false)], []⟩ ?_
  refine Dg (.inl rfl) [.bool false] [] rfl (Ge.refl _ _) ?_
  exact ⟨congrArg Value.bool (fine_out (by omega)).symm, rfl⟩
 ·
  refine Ra 6 (Qc B110 13) 1 [] [(14, VB (decide (k1 > 255)))] ?_
  refine Sd 14 rfl ?_ ?_ <;> intro h2
  ·
   refine Rn 8 (.ex .ret) [] ⟨57, [(2, VB false)], []⟩ ?_
   refine Dg (.inl rfl) [.bool false] [] rfl (Ge.refl _ _) ?_
   exact ⟨congrArg Value.bool (fine_out (by omega)).symm, rfl⟩
  ·
   refine Ra 7 (Qo B110 14 2) 1 [Qs B110 15] [(16, I6 k1)] ?_
   refine X.inline (f := 112) (l := [I6 k1]) (fn := Try.f112) (c := B112) (by kernel_rfl) (by kernel_rfl) Try.func112 (by kernel_rfl) ?_
   intro Q3 M3 hM3 hQ3 fin3
   refine Ra 12 (Qc B112 13) 0 [Qs B112 7] [(2, I6 0), (4, VB (k1 == 2))] ?_
   refine Se 4 rfl ?_ ?_ <;> intro h4
   ·
    refine Rn 8 (.ex .ret) [] ⟨13, [(2, I6 2)], [(1001, ⟨65, [I6 k1, VL A xs.length ca, VT s1]⟩)]⟩ ?_
    refine fin3 _ _ _ _ [N6 2] [(1, ⟨65, [I6 k1, VL A xs.length ca, VT s1]⟩)] (.inl rfl) (by kernel_rfl) (by kernel_rfl) ?_
    refine Ra 25 (Qc B110 506) 1 [.blk 0, Qs B110 127] [(3, I6 2), (4, I7 1), (5, I6 0)] ?_
    refine X.rounds 6 ?_
    refine RX.succ fun J5 hJ5 => ?_
    refine Rn 25 (.ex .normal) [.loop J5, .blk 0, Qs B110 127] ⟨57, [(1, .own 1 0), (2, VB false), (3, I6 2), (4, I7 256), (5, I6 1), (24, I6 0), (25, I6 2), (26, VB true), (27, I6 0), (28, I6 1), (29, I7 1), (30, I7 256)], [(1, ⟨65, [I6 k1, VL A xs.length ca, VT s1]⟩)]⟩ ?_
    refine X.again (hJ5 _ _ _ ?_)
    refine RX.succ fun J6 hJ6 => ?_
    refine Rn 25 (.ex .normal) [.loop J6, .blk 0, Qs B110 127] ⟨57, [(1, .own 1 0), (2, VB false), (3, I6 2), (4, I7 65536), (5, I6 2), (24, I6 1), (25, I6 2), (26, VB true), (27, I6 1), (28, I6 2), (29, I7 256), (30, I7 65536)], [(1, ⟨65, [I6 k1, VL A xs.length ca, VT s1]⟩)]⟩ ?_
    refine X.again (hJ6 _ _ _ ?_)
    refine RX.succ fun J7 hJ7 => ?_
    refine Rn 21 (Qc B110 1018) [.blk 2, Qs B110 255] ⟨57, [(1, .own 1 0), (2, VB false), (4, I7 65536), (6, I6 0)], [(1, ⟨65, [I6 k1, VL A xs.length ca, VT s1]⟩)]⟩ ?_
    refine Rn 0 (Qc B110 1018) [.blk 2, Qs B110 255] _ (X.loopJ (fun m s R' G' => ∃ (i : Int), s = ⟨57, [(1, .own 1 0), (4, I7 65536), (6, I6 i)], [(1, ⟨65, [I6 k1, VL A xs.length ca, VT s1]⟩)]⟩ ∧ R' = [] ∧ G = G' ∧ (0 ≤ i ∧ i ≤ (xs.length : Int) ∧ ∀ n ∈ xs.take i.toNat, n < 65536) ∧ m = ((xs.length : Int) - i).toNat) _ ⟨0, rfl, rfl, rfl, ⟨by omega, by omega, by simp⟩, rfl⟩ ?_)
    rintro m8 s8 R8 G8 ⟨i, rfl, rfl, rfl, hF8, rfl⟩ J8 hJ8
    obtain ⟨hi0, hi1, hi2⟩ := hF8
    refine Ra 10 (Qc B110 8145) 0 [Qs B110 4073] [(35, VB (decide (i < (xs.length : Int))))] ?_
    refine Sd 35 rfl ?_ ?_ <;> intro h9
    ·
     refine Ra 10 (Qo B110 32584 3) 1 [Qs B110 32585, .blk 3, Qs B110 8147] [(39, VL A xs.length ca), (40, I6 i)] ?_
     refine Ix 63 29 1 A xs.length ca .i64 i (.tmp 39) (.tmp 40) (by omega) (by omega) (fun _ _ => rowAt.so hx (by omega)) ?_
     obtain ⟨at12, lo12, hi12⟩ := At.int [] hx ((i).toNat) (by omega)
     simp only [IntKind.lo, IntKind.hi] at lo12 hi12
     refine Ra 0 (Qo B110 32584 4) 0 [] [(41, .v (elt A ((i).toNat * 1)))] ?_
     refine Ld 29 A ((i).toNat * 1) (.tmp 41) (N3 (xs.getD i.toNat 0)) [N3 (xs.getD i.toNat 0)] at12 ?_
     refine Ra 1 (Qo B110 32584 6) 0 [] [(43, I7 (IntKind.u64.wrap (xs.getD i.toNat 0)))] ?_
     refine Kn 43 .u64 (xs.getD i.toNat 0) rfl (wu64 (by omega) (by omega)) ?_
     refine Ra 4 (Qc B110 32585) 1 [] [(45, VB (decide (xs.getD i.toNat 0 ≥ 65536)))] ?_
     refine Sd 45 rfl ?_ ?_ <;> intro h13
     ·
      refine Rn 12 (.ex .ret) [] ⟨57, [(2, VB false)], []⟩ ?_
      refine Dg (.inl rfl) [.bool false] [] rfl (Ge.refl _ _) ?_
      refine ⟨congrArg Value.bool ?_, rfl⟩
      first | exact (fine_raw (show 2 ≤ k1 ∧ k1 ≤ 255 from ⟨by omega, by omega⟩) (show szk k1 ≠ 0 by rw [show k1 = 2 by assumption]; decide) (by assumption)).symm | exact (fine_big (show 2 ≤ k1 ∧ k1 ≤ 255 from ⟨by omega, by omega⟩) (show szk k1 ≠ 0 by rw [show k1 = 2 by assumption]; decide) (show (256 : Int) ^ (szk k1).toNat = 65536 by rw [show k1 = 2 by assumption]; rfl) (getD_mem (i := i.toNat) (d := 0) (by omega)) (by omega)).symm
     ·
      have e1 : IntKind.i64.wrap (i + 1) = i + 1 := wi64 (by omega) (by omega)
      have e0 : (i + 1).toNat = i.toNat + 1 := by omega
      exact Rn 9 (.ex .normal) [.loop J8, .blk 2, Qs B110 255] _ (X.again (hJ8 _ _ _ _ ⟨IntKind.i64.wrap (i + 1), rfl, rfl, rfl, ⟨by omega, by omega, by rw [e1, e0]; exact take_all (d := 0) hi2 (by omega) (by omega)⟩, rfl⟩ (by rw [e1]; omega)))
    ·
     refine Rc 12 (Qo B110 510 4) 4 [Qs B110 511] [(49, VB (s1.toList == (⟨#[]⟩ : ByteArray).toList))] [4, 6] ?_
     refine X.split 49 rfl (fun h14 => ?_) (fun h14 => ?_)
     ·
      replace h14 : s1 = (⟨#[]⟩ : ByteArray) := strT h14
      refine Rb 5 (Qo B110 510 9) 0 [] [(49, VB true), (51, I6 k1), (54, I6 (xs.length : Int))] [] [] [1] ?_
      refine X.inline (f := 121) (l := [I6 k1, I6 (xs.length : Int)]) (fn := Try.f121) (c := B121) (by kernel_rfl) (by kernel_rfl) Try.func121 (by kernel_rfl) ?_
      intro Q15 M15 hM15 hQ15 fin15
      refine Ra 12 (Qc B121 13) 0 [Qs B121 7] [(4, VB false), (6, VB (k1 == 2))] ?_
      refine Se 6 rfl ?_ ?_ <;> intro h16
      ·
       refine Rn 10 (.ex .ret) [] ⟨15, [(4, VB ((xs.length : Int) == 1))], []⟩ ?_
       refine fin15 _ _ _ _ [.bool ((xs.length : Int) == 1)] [] (.inl rfl) (by kernel_rfl) (by kernel_rfl) ?_
       refine Rn 5 (.ex .ret) [] ⟨57, [(2, VB ((xs.length : Int) == 1))], []⟩ ?_
       refine Dg (.inl rfl) [.bool ((xs.length : Int) == 1)] [] rfl (Ge.refl _ _) ?_
       refine ⟨congrArg Value.bool ?_, rfl⟩
       rw [List.take_of_length_le (by omega)] at hi2
       rw [fine_eq (show 2 ≤ k1 ∧ k1 ≤ 255 from ⟨by omega, by omega⟩) (show szk k1 ≠ 0 by rw [show k1 = 2 by assumption]; decide), (show (256 : Int) ^ (szk k1).toNat = 65536 by rw [show k1 = 2 by assumption]; rfl), decide_eq_true (show s1 = ⟨#[]⟩ by assumption), decide_eq_true hi2, show k1 = 2 by assumption, show lk2 2 = 1 from rfl, show mk2 2 = 1 from rfl, Bool.eq_iff_iff]
       simp <;> omega
      ·
       refine Ra 10 (Qc B121 29) 1 [Qs B121 15] [(10, VB (k1 == 8))] ?_
       refine Se 10 rfl ?_ ?_ <;> intro h17
       ·
        refine Rn 10 (.ex .ret) [] ⟨15, [(4, VB ((xs.length : Int) == 2))], []⟩ ?_
        refine fin15 _ _ _ _ [.bool ((xs.length : Int) == 2)] [] (.inl rfl) (by kernel_rfl) (by kernel_rfl) ?_
        refine Rn 5 (.ex .ret) [] ⟨57, [(2, VB ((xs.length : Int) == 2))], []⟩ ?_
        refine Dg (.inl rfl) [.bool ((xs.length : Int) == 2)] [] rfl (Ge.refl _ _) ?_
        refine ⟨congrArg Value.bool ?_, rfl⟩
        rw [List.take_of_length_le (by omega)] at hi2
        rw [fine_eq (show 2 ≤ k1 ∧ k1 ≤ 255 from ⟨by omega, by omega⟩) (show szk k1 ≠ 0 by rw [show k1 = 2 by assumption]; decide), (show (256 : Int) ^ (szk k1).toNat = 65536 by rw [show k1 = 2 by assumption]; rfl), decide_eq_true (show s1 = ⟨#[]⟩ by assumption), decide_eq_true hi2, show k1 = 2 by assumption, show lk2 2 = 1 from rfl, show mk2 2 = 1 from rfl, Bool.eq_iff_iff]
        simp <;> omega
       ·
        refine Rn 11 (.ex .ret) [] ⟨15, [(4, VB (decide ((xs.length : Int) ≤ 3)))], []⟩ ?_
        refine fin15 _ _ _ _ [.bool (decide ((xs.length : Int) ≤ 3))] [] (.inl rfl) (by kernel_rfl) (by kernel_rfl) ?_
        refine Rn 5 (.ex .ret) [] ⟨57, [(2, VB (decide ((xs.length : Int) ≤ 3)))], []⟩ ?_
        refine Dg (.inl rfl) [.bool (decide ((xs.length : Int) ≤ 3))] [] rfl (Ge.refl _ _) ?_
        refine ⟨congrArg Value.bool ?_, rfl⟩
        rw [List.take_of_length_le (by omega)] at hi2
        rw [fine_eq (show 2 ≤ k1 ∧ k1 ≤ 255 from ⟨by omega, by omega⟩) (show szk k1 ≠ 0 by rw [show k1 = 2 by assumption]; decide), (show (256 : Int) ^ (szk k1).toNat = 65536 by rw [show k1 = 2 by assumption]; rfl), decide_eq_true (show s1 = ⟨#[]⟩ by assumption), decide_eq_true hi2, show k1 = 2 by assumption, show lk2 2 = 1 from rfl, show mk2 2 = 1 from rfl, Bool.eq_iff_iff]
        simp <;> omega
     ·
      replace h14 : s1 ≠ (⟨#[]⟩ : ByteArray) := strF h14
      refine Rn 11 (.ex .ret) [] ⟨57, [(2, VB false)], []⟩ ?_
      refine Dg (.inl rfl) [.bool false] [] rfl (Ge.refl _ _) ?_
      refine ⟨congrArg Value.bool ?_, rfl⟩
      first | exact (fine_raw (show 2 ≤ k1 ∧ k1 ≤ 255 from ⟨by omega, by omega⟩) (show szk k1 ≠ 0 by rw [show k1 = 2 by assumption]; decide) (by assumption)).symm | exact (fine_big (show 2 ≤ k1 ∧ k1 ≤ 255 from ⟨by omega, by omega⟩) (show szk k1 ≠ 0 by rw [show k1 = 2 by assumption]; decide) (show (256 : Int) ^ (szk k1).toNat = 65536 by rw [show k1 = 2 by assumption]; rfl) (getD_mem (i := i.toNat) (d := 0) (by omega)) (by omega)).symm
   ·
    refine Ra 10 (Qc B112 29) 1 [Qs B112 15] [(6, VB (k1 == 8))] ?_
    refine Se 6 rfl ?_ ?_ <;> intro h18
    ·
     refine Rn 8 (.ex .ret) [] ⟨13, [(2, I6 4)], [(1001, ⟨65, [I6 k1, VL A xs.length ca, VT s1]⟩)]⟩ ?_
     refine fin3 _ _ _ _ [N6 4] [(1, ⟨65, [I6 k1, VL A xs.length ca, VT s1]⟩)] (.inl rfl) (by kernel_rfl) (by kernel_rfl) ?_
     refine Ra 25 (Qc B110 506) 1 [.blk 0, Qs B110 127] [(3, I6 4), (4, I7 1), (5, I6 0)] ?_
     refine X.rounds 6 ?_
     refine RX.succ fun J19 hJ19 => ?_
     refine Rn 25 (.ex .normal) [.loop J19, .blk 0, Qs B110 127] ⟨57, [(1, .own 1 0), (2, VB false), (3, I6 4), (4, I7 256), (5, I6 1), (24, I6 0), (25, I6 4), (26, VB true), (27, I6 0), (28, I6 1), (29, I7 1), (30, I7 256)], [(1, ⟨65, [I6 k1, VL A xs.length ca, VT s1]⟩)]⟩ ?_
     refine X.again (hJ19 _ _ _ ?_)
     refine RX.succ fun J20 hJ20 => ?_
     refine Rn 25 (.ex .normal) [.loop J20, .blk 0, Qs B110 127] ⟨57, [(1, .own 1 0), (2, VB false), (3, I6 4), (4, I7 65536), (5, I6 2), (24, I6 1), (25, I6 4), (26, VB true), (27, I6 1), (28, I6 2), (29, I7 256), (30, I7 65536)], [(1, ⟨65, [I6 k1, VL A xs.length ca, VT s1]⟩)]⟩ ?_
     refine X.again (hJ20 _ _ _ ?_)
     refine RX.succ fun J21 hJ21 => ?_
     refine Rn 25 (.ex .normal) [.loop J21, .blk 0, Qs B110 127] ⟨57, [(1, .own 1 0), (2, VB false), (3, I6 4), (4, I7 16777216), (5, I6 3), (24, I6 2), (25, I6 4), (26, VB true), (27, I6 2), (28, I6 3), (29, I7 65536), (30, I7 16777216)], [(1, ⟨65, [I6 k1, VL A xs.length ca, VT s1]⟩)]⟩ ?_
     refine X.again (hJ21 _ _ _ ?_)
     refine RX.succ fun J22 hJ22 => ?_
     refine Rn 25 (.ex .normal) [.loop J22, .blk 0, Qs B110 127] ⟨57, [(1, .own 1 0), (2, VB false), (3, I6 4), (4, I7 4294967296), (5, I6 4), (24, I6 3), (25, I6 4), (26, VB true), (27, I6 3), (28, I6 4), (29, I7 16777216), (30, I7 4294967296)], [(1, ⟨65, [I6 k1, VL A xs.length ca, VT s1]⟩)]⟩ ?_
     refine X.again (hJ22 _ _ _ ?_)
     refine RX.succ fun J23 hJ23 => ?_
     refine Rn 21 (Qc B110 1018) [.blk 2, Qs B110 255] ⟨57, [(1, .own 1 0), (2, VB false), (4, I7 4294967296), (6, I6 0)], [(1, ⟨65, [I6 k1, VL A xs.length ca, VT s1]⟩)]⟩ ?_
     refine Rn 0 (Qc B110 1018) [.blk 2, Qs B110 255] _ (X.loopJ (fun m s R' G' => ∃ (i : Int), s = ⟨57, [(1, .own 1 0), (4, I7 4294967296), (6, I6 i)], [(1, ⟨65, [I6 k1, VL A xs.length ca, VT s1]⟩)]⟩ ∧ R' = [] ∧ G = G' ∧ (0 ≤ i ∧ i ≤ (xs.length : Int) ∧ ∀ n ∈ xs.take i.toNat, n < 4294967296) ∧ m = ((xs.length : Int) - i).toNat) _ ⟨0, rfl, rfl, rfl, ⟨by omega, by omega, by simp⟩, rfl⟩ ?_)
     rintro m24 s24 R24 G24 ⟨i, rfl, rfl, rfl, hF24, rfl⟩ J24 hJ24
     obtain ⟨hi0, hi1, hi2⟩ := hF24
     refine Ra 10 (Qc B110 8145) 0 [Qs B110 4073] [(35, VB (decide (i < (xs.length : Int))))] ?_
     refine Sd 35 rfl ?_ ?_ <;> intro h25
     ·
      refine Ra 10 (Qo B110 32584 3) 1 [Qs B110 32585, .blk 3, Qs B110 8147] [(39, VL A xs.length ca), (40, I6 i)] ?_
      refine Ix 63 29 1 A xs.length ca .i64 i (.tmp 39) (.tmp 40) (by omega) (by omega) (fun _ _ => rowAt.so hx (by omega)) ?_
      obtain ⟨at28, lo28, hi28⟩ := At.int [] hx ((i).toNat) (by omega)
      simp only [IntKind.lo, IntKind.hi] at lo28 hi28
      refine Ra 0 (Qo B110 32584 4) 0 [] [(41, .v (elt A ((i).toNat * 1)))] ?_
      refine Ld 29 A ((i).toNat * 1) (.tmp 41) (N3 (xs.getD i.toNat 0)) [N3 (xs.getD i.toNat 0)] at28 ?_
      refine Ra 1 (Qo B110 32584 6) 0 [] [(43, I7 (IntKind.u64.wrap (xs.getD i.toNat 0)))] ?_
      refine Kn 43 .u64 (xs.getD i.toNat 0) rfl (wu64 (by omega) (by omega)) ?_
      refine Ra 4 (Qc B110 32585) 1 [] [(45, VB (decide (xs.getD i.toNat 0 ≥ 4294967296)))] ?_
      refine Sd 45 rfl ?_ ?_ <;> intro h29
      ·
       refine Rn 12 (.ex .ret) [] ⟨57, [(2, VB false)], []⟩ ?_
       refine Dg (.inl rfl) [.bool false] [] rfl (Ge.refl _ _) ?_
       refine ⟨congrArg Value.bool ?_, rfl⟩
       first | exact (fine_raw (show 2 ≤ k1 ∧ k1 ≤ 255 from ⟨by omega, by omega⟩) (show szk k1 ≠ 0 by rw [show k1 = 8 by assumption]; decide) (by assumption)).symm | exact (fine_big (show 2 ≤ k1 ∧ k1 ≤ 255 from ⟨by omega, by omega⟩) (show szk k1 ≠ 0 by rw [show k1 = 8 by assumption]; decide) (show (256 : Int) ^ (szk k1).toNat = 4294967296 by rw [show k1 = 8 by assumption]; rfl) (getD_mem (i := i.toNat) (d := 0) (by omega)) (by omega)).symm
      ·
       have e1 : IntKind.i64.wrap (i + 1) = i + 1 := wi64 (by omega) (by omega)
       have e0 : (i + 1).toNat = i.toNat + 1 := by omega
       exact Rn 9 (.ex .normal) [.loop J24, .blk 2, Qs B110 255] _ (X.again (hJ24 _ _ _ _ ⟨IntKind.i64.wrap (i + 1), rfl, rfl, rfl, ⟨by omega, by omega, by rw [e1, e0]; exact take_all (d := 0) hi2 (by omega) (by omega)⟩, rfl⟩ (by rw [e1]; omega)))
     ·
      refine Rc 12 (Qo B110 510 4) 4 [Qs B110 511] [(49, VB (s1.toList == (⟨#[]⟩ : ByteArray).toList))] [4, 6] ?_
      refine X.split 49 rfl (fun h30 => ?_) (fun h30 => ?_)
      ·
       replace h30 : s1 = (⟨#[]⟩ : ByteArray) := strT h30
       refine Rb 5 (Qo B110 510 9) 0 [] [(49, VB true), (51, I6 k1), (54, I6 (xs.length : Int))] [] [] [1] ?_
       refine X.inline (f := 121) (l := [I6 k1, I6 (xs.length : Int)]) (fn := Try.f121) (c := B121) (by kernel_rfl) (by kernel_rfl) Try.func121 (by kernel_rfl) ?_
       intro Q31 M31 hM31 hQ31 fin31
       refine Ra 12 (Qc B121 13) 0 [Qs B121 7] [(4, VB false), (6, VB (k1 == 2))] ?_
       refine Se 6 rfl ?_ ?_ <;> intro h32
       ·
        refine Rn 10 (.ex .ret) [] ⟨15, [(4, VB ((xs.length : Int) == 1))], []⟩ ?_
        refine fin31 _ _ _ _ [.bool ((xs.length : Int) == 1)] [] (.inl rfl) (by kernel_rfl) (by kernel_rfl) ?_
        refine Rn 5 (.ex .ret) [] ⟨57, [(2, VB ((xs.length : Int) == 1))], []⟩ ?_
        refine Dg (.inl rfl) [.bool ((xs.length : Int) == 1)] [] rfl (Ge.refl _ _) ?_
        refine ⟨congrArg Value.bool ?_, rfl⟩
        rw [List.take_of_length_le (by omega)] at hi2
        rw [fine_eq (show 2 ≤ k1 ∧ k1 ≤ 255 from ⟨by omega, by omega⟩) (show szk k1 ≠ 0 by rw [show k1 = 8 by assumption]; decide), (show (256 : Int) ^ (szk k1).toNat = 4294967296 by rw [show k1 = 8 by assumption]; rfl), decide_eq_true (show s1 = ⟨#[]⟩ by assumption), decide_eq_true hi2, show k1 = 8 by assumption, show lk2 8 = 2 from rfl, show mk2 8 = 2 from rfl, Bool.eq_iff_iff]
        simp <;> omega
       ·
        refine Ra 10 (Qc B121 29) 1 [Qs B121 15] [(10, VB (k1 == 8))] ?_
        refine Se 10 rfl ?_ ?_ <;> intro h33
        ·
         refine Rn 10 (.ex .ret) [] ⟨15, [(4, VB ((xs.length : Int) == 2))], []⟩ ?_
         refine fin31 _ _ _ _ [.bool ((xs.length : Int) == 2)] [] (.inl rfl) (by kernel_rfl) (by kernel_rfl) ?_
         refine Rn 5 (.ex .ret) [] ⟨57, [(2, VB ((xs.length : Int) == 2))], []⟩ ?_
         refine Dg (.inl rfl) [.bool ((xs.length : Int) == 2)] [] rfl (Ge.refl _ _) ?_
         refine ⟨congrArg Value.bool ?_, rfl⟩
         rw [List.take_of_length_le (by omega)] at hi2
         rw [fine_eq (show 2 ≤ k1 ∧ k1 ≤ 255 from ⟨by omega, by omega⟩) (show szk k1 ≠ 0 by rw [show k1 = 8 by assumption]; decide), (show (256 : Int) ^ (szk k1).toNat = 4294967296 by rw [show k1 = 8 by assumption]; rfl), decide_eq_true (show s1 = ⟨#[]⟩ by assumption), decide_eq_true hi2, show k1 = 8 by assumption, show lk2 8 = 2 from rfl, show mk2 8 = 2 from rfl, Bool.eq_iff_iff]
         simp <;> omega
        ·
         refine Rn 11 (.ex .ret) [] ⟨15, [(4, VB (decide ((xs.length : Int) ≤ 3)))], []⟩ ?_
         refine fin31 _ _ _ _ [.bool (decide ((xs.length : Int) ≤ 3))] [] (.inl rfl) (by kernel_rfl) (by kernel_rfl) ?_
         refine Rn 5 (.ex .ret) [] ⟨57, [(2, VB (decide ((xs.length : Int) ≤ 3)))], []⟩ ?_
         refine Dg (.inl rfl) [.bool (decide ((xs.length : Int) ≤ 3))] [] rfl (Ge.refl _ _) ?_
         refine ⟨congrArg Value.bool ?_, rfl⟩
         rw [List.take_of_length_le (by omega)] at hi2
         rw [fine_eq (show 2 ≤ k1 ∧ k1 ≤ 255 from ⟨by omega, by omega⟩) (show szk k1 ≠ 0 by rw [show k1 = 8 by assumption]; decide), (show (256 : Int) ^ (szk k1).toNat = 4294967296 by rw [show k1 = 8 by assumption]; rfl), decide_eq_true (show s1 = ⟨#[]⟩ by assumption), decide_eq_true hi2, show k1 = 8 by assumption, show lk2 8 = 2 from rfl, show mk2 8 = 2 from rfl, Bool.eq_iff_iff]
         simp <;> omega
      ·
       replace h30 : s1 ≠ (⟨#[]⟩ : ByteArray) := strF h30
       refine Rn 11 (.ex .ret) [] ⟨57, [(2, VB false)], []⟩ ?_
       refine Dg (.inl rfl) [.bool false] [] rfl (Ge.refl _ _) ?_
       refine ⟨congrArg Value.bool ?_, rfl⟩
       first | exact (fine_raw (show 2 ≤ k1 ∧ k1 ≤ 255 from ⟨by omega, by omega⟩) (show szk k1 ≠ 0 by rw [show k1 = 8 by assumption]; decide) (by assumption)).symm | exact (fine_big (show 2 ≤ k1 ∧ k1 ≤ 255 from ⟨by omega, by omega⟩) (show szk k1 ≠ 0 by rw [show k1 = 8 by assumption]; decide) (show (256 : Int) ^ (szk k1).toNat = 4294967296 by rw [show k1 = 8 by assumption]; rfl) (getD_mem (i := i.toNat) (d := 0) (by omega)) (by omega)).symm
    ·
     refine Ra 9 (Qo B112 60 3) 1 [Qs B112 61, Qs B112 31] [(9, VB (k1 == 172))] ?_
     refine Se 9 rfl ?_ ?_ <;> intro h34
     ·
      refine Rn 13 (.ex .ret) [] ⟨13, [(2, I6 3)], [(1001, ⟨65, [I6 k1, VL A xs.length ca, VT s1]⟩)]⟩ ?_
      refine fin3 _ _ _ _ [N6 3] [(1, ⟨65, [I6 k1, VL A xs.length ca, VT s1]⟩)] (.inl rfl) (by kernel_rfl) (by kernel_rfl) ?_
      refine Ra 25 (Qc B110 506) 1 [.blk 0, Qs B110 127] [(3, I6 3), (4, I7 1), (5, I6 0)] ?_
      refine X.rounds 6 ?_
      refine RX.succ fun J35 hJ35 => ?_
      refine Rn 25 (.ex .normal) [.loop J35, .blk 0, Qs B110 127] ⟨57, [(1, .own 1 0), (2, VB false), (3, I6 3), (4, I7 256), (5, I6 1), (24, I6 0), (25, I6 3), (26, VB true), (27, I6 0), (28, I6 1), (29, I7 1), (30, I7 256)], [(1, ⟨65, [I6 k1, VL A xs.length ca, VT s1]⟩)]⟩ ?_
      refine X.again (hJ35 _ _ _ ?_)
      refine RX.succ fun J36 hJ36 => ?_
      refine Rn 25 (.ex .normal) [.loop J36, .blk 0, Qs B110 127] ⟨57, [(1, .own 1 0), (2, VB false), (3, I6 3), (4, I7 65536), (5, I6 2), (24, I6 1), (25, I6 3), (26, VB true), (27, I6 1), (28, I6 2), (29, I7 256), (30, I7 65536)], [(1, ⟨65, [I6 k1, VL A xs.length ca, VT s1]⟩)]⟩ ?_
      refine X.again (hJ36 _ _ _ ?_)
      refine RX.succ fun J37 hJ37 => ?_
      refine Rn 25 (.ex .normal) [.loop J37, .blk 0, Qs B110 127] ⟨57, [(1, .own 1 0), (2, VB false), (3, I6 3), (4, I7 16777216), (5, I6 3), (24, I6 2), (25, I6 3), (26, VB true), (27, I6 2), (28, I6 3), (29, I7 65536), (30, I7 16777216)], [(1, ⟨65, [I6 k1, VL A xs.length ca, VT s1]⟩)]⟩ ?_
      refine X.again (hJ37 _ _ _ ?_)
      refine RX.succ fun J38 hJ38 => ?_
      refine Rn 21 (Qc B110 1018) [.blk 2, Qs B110 255] ⟨57, [(1, .own 1 0), (2, VB false), (4, I7 16777216), (6, I6 0)], [(1, ⟨65, [I6 k1, VL A xs.length ca, VT s1]⟩)]⟩ ?_
      refine Rn 0 (Qc B110 1018) [.blk 2, Qs B110 255] _ (X.loopJ (fun m s R' G' => ∃ (i : Int), s = ⟨57, [(1, .own 1 0), (4, I7 16777216), (6, I6 i)], [(1, ⟨65, [I6 k1, VL A xs.length ca, VT s1]⟩)]⟩ ∧ R' = [] ∧ G = G' ∧ (0 ≤ i ∧ i ≤ (xs.length : Int) ∧ ∀ n ∈ xs.take i.toNat, n < 16777216) ∧ m = ((xs.length : Int) - i).toNat) _ ⟨0, rfl, rfl, rfl, ⟨by omega, by omega, by simp⟩, rfl⟩ ?_)
      rintro m39 s39 R39 G39 ⟨i, rfl, rfl, rfl, hF39, rfl⟩ J39 hJ39
      obtain ⟨hi0, hi1, hi2⟩ := hF39
      refine Ra 10 (Qc B110 8145) 0 [Qs B110 4073] [(35, VB (decide (i < (xs.length : Int))))] ?_
      refine Sd 35 rfl ?_ ?_ <;> intro h40
      ·
       refine Ra 10 (Qo B110 32584 3) 1 [Qs B110 32585, .blk 3, Qs B110 8147] [(39, VL A xs.length ca), (40, I6 i)] ?_
       refine Ix 63 29 1 A xs.length ca .i64 i (.tmp 39) (.tmp 40) (by omega) (by omega) (fun _ _ => rowAt.so hx (by omega)) ?_
       obtain ⟨at43, lo43, hi43⟩ := At.int [] hx ((i).toNat) (by omega)
       simp only [IntKind.lo, IntKind.hi] at lo43 hi43
       refine Ra 0 (Qo B110 32584 4) 0 [] [(41, .v (elt A ((i).toNat * 1)))] ?_
       refine Ld 29 A ((i).toNat * 1) (.tmp 41) (N3 (xs.getD i.toNat 0)) [N3 (xs.getD i.toNat 0)] at43 ?_
       refine Ra 1 (Qo B110 32584 6) 0 [] [(43, I7 (IntKind.u64.wrap (xs.getD i.toNat 0)))] ?_
       refine Kn 43 .u64 (xs.getD i.toNat 0) rfl (wu64 (by omega) (by omega)) ?_
       refine Ra 4 (Qc B110 32585) 1 [] [(45, VB (decide (xs.getD i.toNat 0 ≥ 16777216)))] ?_
       refine Sd 45 rfl ?_ ?_ <;> intro h44
       ·
        refine Rn 12 (.ex .ret) [] ⟨57, [(2, VB false)], []⟩ ?_
        refine Dg (.inl rfl) [.bool false] [] rfl (Ge.refl _ _) ?_
        refine ⟨congrArg Value.bool ?_, rfl⟩
        first | exact (fine_raw (show 2 ≤ k1 ∧ k1 ≤ 255 from ⟨by omega, by omega⟩) (show szk k1 ≠ 0 by rw [show k1 = 172 by assumption]; decide) (by assumption)).symm | exact (fine_big (show 2 ≤ k1 ∧ k1 ≤ 255 from ⟨by omega, by omega⟩) (show szk k1 ≠ 0 by rw [show k1 = 172 by assumption]; decide) (show (256 : Int) ^ (szk k1).toNat = 16777216 by rw [show k1 = 172 by assumption]; rfl) (getD_mem (i := i.toNat) (d := 0) (by omega)) (by omega)).symm
       ·
        have e1 : IntKind.i64.wrap (i + 1) = i + 1 := wi64 (by omega) (by omega)
        have e0 : (i + 1).toNat = i.toNat + 1 := by omega
        exact Rn 9 (.ex .normal) [.loop J39, .blk 2, Qs B110 255] _ (X.again (hJ39 _ _ _ _ ⟨IntKind.i64.wrap (i + 1), rfl, rfl, rfl, ⟨by omega, by omega, by rw [e1, e0]; exact take_all (d := 0) hi2 (by omega) (by omega)⟩, rfl⟩ (by rw [e1]; omega)))
      ·
       refine Rc 12 (Qo B110 510 4) 4 [Qs B110 511] [(49, VB (s1.toList == (⟨#[]⟩ : ByteArray).toList))] [4, 6] ?_
       refine X.split 49 rfl (fun h45 => ?_) (fun h45 => ?_)
       ·
        replace h45 : s1 = (⟨#[]⟩ : ByteArray) := strT h45
        refine Rb 5 (Qo B110 510 9) 0 [] [(49, VB true), (51, I6 k1), (54, I6 (xs.length : Int))] [] [] [1] ?_
        refine X.inline (f := 121) (l := [I6 k1, I6 (xs.length : Int)]) (fn := Try.f121) (c := B121) (by kernel_rfl) (by kernel_rfl) Try.func121 (by kernel_rfl) ?_
        intro Q46 M46 hM46 hQ46 fin46
        refine Ra 12 (Qc B121 13) 0 [Qs B121 7] [(4, VB false), (6, VB (k1 == 2))] ?_
        refine Se 6 rfl ?_ ?_ <;> intro h47
        ·
         refine Rn 10 (.ex .ret) [] ⟨15, [(4, VB ((xs.length : Int) == 1))], []⟩ ?_
         refine fin46 _ _ _ _ [.bool ((xs.length : Int) == 1)] [] (.inl rfl) (by kernel_rfl) (by kernel_rfl) ?_
         refine Rn 5 (.ex .ret) [] ⟨57, [(2, VB ((xs.length : Int) == 1))], []⟩ ?_
         refine Dg (.inl rfl) [.bool ((xs.length : Int) == 1)] [] rfl (Ge.refl _ _) ?_
         refine ⟨congrArg Value.bool ?_, rfl⟩
         rw [List.take_of_length_le (by omega)] at hi2
         rw [fine_eq (show 2 ≤ k1 ∧ k1 ≤ 255 from ⟨by omega, by omega⟩) (show szk k1 ≠ 0 by rw [show k1 = 172 by assumption]; decide), (show (256 : Int) ^ (szk k1).toNat = 16777216 by rw [show k1 = 172 by assumption]; rfl), decide_eq_true (show s1 = ⟨#[]⟩ by assumption), decide_eq_true hi2, show k1 = 172 by assumption, show lk2 172 = 0 from rfl, show mk2 172 = 3 from rfl, Bool.eq_iff_iff]
         simp <;> omega
        ·
         refine Ra 10 (Qc B121 29) 1 [Qs B121 15] [(10, VB (k1 == 8))] ?_
         refine Se 10 rfl ?_ ?_ <;> intro h48
         ·
          refine Rn 10 (.ex .ret) [] ⟨15, [(4, VB ((xs.length : Int) == 2))], []⟩ ?_
          refine fin46 _ _ _ _ [.bool ((xs.length : Int) == 2)] [] (.inl rfl) (by kernel_rfl) (by kernel_rfl) ?_
          refine Rn 5 (.ex .ret) [] ⟨57, [(2, VB ((xs.length : Int) == 2))], []⟩ ?_
          refine Dg (.inl rfl) [.bool ((xs.length : Int) == 2)] [] rfl (Ge.refl _ _) ?_
          refine ⟨congrArg Value.bool ?_, rfl⟩
          rw [List.take_of_length_le (by omega)] at hi2
          rw [fine_eq (show 2 ≤ k1 ∧ k1 ≤ 255 from ⟨by omega, by omega⟩) (show szk k1 ≠ 0 by rw [show k1 = 172 by assumption]; decide), (show (256 : Int) ^ (szk k1).toNat = 16777216 by rw [show k1 = 172 by assumption]; rfl), decide_eq_true (show s1 = ⟨#[]⟩ by assumption), decide_eq_true hi2, show k1 = 172 by assumption, show lk2 172 = 0 from rfl, show mk2 172 = 3 from rfl, Bool.eq_iff_iff]
          simp <;> omega
         ·
          refine Rn 11 (.ex .ret) [] ⟨15, [(4, VB (decide ((xs.length : Int) ≤ 3)))], []⟩ ?_
          refine fin46 _ _ _ _ [.bool (decide ((xs.length : Int) ≤ 3))] [] (.inl rfl) (by kernel_rfl) (by kernel_rfl) ?_
          refine Rn 5 (.ex .ret) [] ⟨57, [(2, VB (decide ((xs.length : Int) ≤ 3)))], []⟩ ?_
          refine Dg (.inl rfl) [.bool (decide ((xs.length : Int) ≤ 3))] [] rfl (Ge.refl _ _) ?_
          refine ⟨congrArg Value.bool ?_, rfl⟩
          rw [List.take_of_length_le (by omega)] at hi2
          rw [fine_eq (show 2 ≤ k1 ∧ k1 ≤ 255 from ⟨by omega, by omega⟩) (show szk k1 ≠ 0 by rw [show k1 = 172 by assumption]; decide), (show (256 : Int) ^ (szk k1).toNat = 16777216 by rw [show k1 = 172 by assumption]; rfl), decide_eq_true (show s1 = ⟨#[]⟩ by assumption), decide_eq_true hi2, show k1 = 172 by assumption, show lk2 172 = 0 from rfl, show mk2 172 = 3 from rfl, Bool.eq_iff_iff]
          simp <;> omega
       ·
        replace h45 : s1 ≠ (⟨#[]⟩ : ByteArray) := strF h45
        refine Rn 11 (.ex .ret) [] ⟨57, [(2, VB false)], []⟩ ?_
        refine Dg (.inl rfl) [.bool false] [] rfl (Ge.refl _ _) ?_
        refine ⟨congrArg Value.bool ?_, rfl⟩
        first | exact (fine_raw (show 2 ≤ k1 ∧ k1 ≤ 255 from ⟨by omega, by omega⟩) (show szk k1 ≠ 0 by rw [show k1 = 172 by assumption]; decide) (by assumption)).symm | exact (fine_big (show 2 ≤ k1 ∧ k1 ≤ 255 from ⟨by omega, by omega⟩) (show szk k1 ≠ 0 by rw [show k1 = 172 by assumption]; decide) (show (256 : Int) ^ (szk k1).toNat = 16777216 by rw [show k1 = 172 by assumption]; rfl) (getD_mem (i := i.toNat) (d := 0) (by omega)) (by omega)).symm
     ·
      refine Ra 5 (Qc B112 61) 1 [] [(12, VB (k1 == 174))] ?_
      refine Se 12 rfl ?_ ?_ <;> intro h49
      ·
       refine Rn 8 (.ex .ret) [] ⟨13, [(2, I6 3)], [(1001, ⟨65, [I6 k1, VL A xs.length ca, VT s1]⟩)]⟩ ?_
       refine fin3 _ _ _ _ [N6 3] [(1, ⟨65, [I6 k1, VL A xs.length ca, VT s1]⟩)] (.inl rfl) (by kernel_rfl) (by kernel_rfl) ?_
       refine Ra 25 (Qc B110 506) 1 [.blk 0, Qs B110 127] [(3, I6 3), (4, I7 1), (5, I6 0)] ?_
       refine X.rounds 6 ?_
       refine RX.succ fun J50 hJ50 => ?_
       refine Rn 25 (.ex .normal) [.loop J50, .blk 0, Qs B110 127] ⟨57, [(1, .own 1 0), (2, VB false), (3, I6 3), (4, I7 256), (5, I6 1), (24, I6 0), (25, I6 3), (26, VB true), (27, I6 0), (28, I6 1), (29, I7 1), (30, I7 256)], [(1, ⟨65, [I6 k1, VL A xs.length ca, VT s1]⟩)]⟩ ?_
       refine X.again (hJ50 _ _ _ ?_)
       refine RX.succ fun J51 hJ51 => ?_
       refine Rn 25 (.ex .normal) [.loop J51, .blk 0, Qs B110 127] ⟨57, [(1, .own 1 0), (2, VB false), (3, I6 3), (4, I7 65536), (5, I6 2), (24, I6 1), (25, I6 3), (26, VB true), (27, I6 1), (28, I6 2), (29, I7 256), (30, I7 65536)], [(1, ⟨65, [I6 k1, VL A xs.length ca, VT s1]⟩)]⟩ ?_
       refine X.again (hJ51 _ _ _ ?_)
       refine RX.succ fun J52 hJ52 => ?_
       refine Rn 25 (.ex .normal) [.loop J52, .blk 0, Qs B110 127] ⟨57, [(1, .own 1 0), (2, VB false), (3, I6 3), (4, I7 16777216), (5, I6 3), (24, I6 2), (25, I6 3), (26, VB true), (27, I6 2), (28, I6 3), (29, I7 65536), (30, I7 16777216)], [(1, ⟨65, [I6 k1, VL A xs.length ca, VT s1]⟩)]⟩ ?_
       refine X.again (hJ52 _ _ _ ?_)
       refine RX.succ fun J53 hJ53 => ?_
       refine Rn 21 (Qc B110 1018) [.blk 2, Qs B110 255] ⟨57, [(1, .own 1 0), (2, VB false), (4, I7 16777216), (6, I6 0)], [(1, ⟨65, [I6 k1, VL A xs.length ca, VT s1]⟩)]⟩ ?_
       refine Rn 0 (Qc B110 1018) [.blk 2, Qs B110 255] _ (X.loopJ (fun m s R' G' => ∃ (i : Int), s = ⟨57, [(1, .own 1 0), (4, I7 16777216), (6, I6 i)], [(1, ⟨65, [I6 k1, VL A xs.length ca, VT s1]⟩)]⟩ ∧ R' = [] ∧ G = G' ∧ (0 ≤ i ∧ i ≤ (xs.length : Int) ∧ ∀ n ∈ xs.take i.toNat, n < 16777216) ∧ m = ((xs.length : Int) - i).toNat) _ ⟨0, rfl, rfl, rfl, ⟨by omega, by omega, by simp⟩, rfl⟩ ?_)
       rintro m54 s54 R54 G54 ⟨i, rfl, rfl, rfl, hF54, rfl⟩ J54 hJ54
       obtain ⟨hi0, hi1, hi2⟩ := hF54
       refine Ra 10 (Qc B110 8145) 0 [Qs B110 4073] [(35, VB (decide (i < (xs.length : Int))))] ?_
       refine Sd 35 rfl ?_ ?_ <;> intro h55
       ·
        refine Ra 10 (Qo B110 32584 3) 1 [Qs B110 32585, .blk 3, Qs B110 8147] [(39, VL A xs.length ca), (40, I6 i)] ?_
        refine Ix 63 29 1 A xs.length ca .i64 i (.tmp 39) (.tmp 40) (by omega) (by omega) (fun _ _ => rowAt.so hx (by omega)) ?_
        obtain ⟨at58, lo58, hi58⟩ := At.int [] hx ((i).toNat) (by omega)
        simp only [IntKind.lo, IntKind.hi] at lo58 hi58
        refine Ra 0 (Qo B110 32584 4) 0 [] [(41, .v (elt A ((i).toNat * 1)))] ?_
        refine Ld 29 A ((i).toNat * 1) (.tmp 41) (N3 (xs.getD i.toNat 0)) [N3 (xs.getD i.toNat 0)] at58 ?_
        refine Ra 1 (Qo B110 32584 6) 0 [] [(43, I7 (IntKind.u64.wrap (xs.getD i.toNat 0)))] ?_
        refine Kn 43 .u64 (xs.getD i.toNat 0) rfl (wu64 (by omega) (by omega)) ?_
        refine Ra 4 (Qc B110 32585) 1 [] [(45, VB (decide (xs.getD i.toNat 0 ≥ 16777216)))] ?_
        refine Sd 45 rfl ?_ ?_ <;> intro h59
        ·
         refine Rn 12 (.ex .ret) [] ⟨57, [(2, VB false)], []⟩ ?_
         refine Dg (.inl rfl) [.bool false] [] rfl (Ge.refl _ _) ?_
         refine ⟨congrArg Value.bool ?_, rfl⟩
         first | exact (fine_raw (show 2 ≤ k1 ∧ k1 ≤ 255 from ⟨by omega, by omega⟩) (show szk k1 ≠ 0 by rw [show k1 = 174 by assumption]; decide) (by assumption)).symm | exact (fine_big (show 2 ≤ k1 ∧ k1 ≤ 255 from ⟨by omega, by omega⟩) (show szk k1 ≠ 0 by rw [show k1 = 174 by assumption]; decide) (show (256 : Int) ^ (szk k1).toNat = 16777216 by rw [show k1 = 174 by assumption]; rfl) (getD_mem (i := i.toNat) (d := 0) (by omega)) (by omega)).symm
        ·
         have e1 : IntKind.i64.wrap (i + 1) = i + 1 := wi64 (by omega) (by omega)
         have e0 : (i + 1).toNat = i.toNat + 1 := by omega
         exact Rn 9 (.ex .normal) [.loop J54, .blk 2, Qs B110 255] _ (X.again (hJ54 _ _ _ _ ⟨IntKind.i64.wrap (i + 1), rfl, rfl, rfl, ⟨by omega, by omega, by rw [e1, e0]; exact take_all (d := 0) hi2 (by omega) (by omega)⟩, rfl⟩ (by rw [e1]; omega)))
       ·
        refine Rc 12 (Qo B110 510 4) 4 [Qs B110 511] [(49, VB (s1.toList == (⟨#[]⟩ : ByteArray).toList))] [4, 6] ?_
        refine X.split 49 rfl (fun h60 => ?_) (fun h60 => ?_)
        ·
         replace h60 : s1 = (⟨#[]⟩ : ByteArray) := strT h60
         refine Rb 5 (Qo B110 510 9) 0 [] [(49, VB true), (51, I6 k1), (54, I6 (xs.length : Int))] [] [] [1] ?_
         refine X.inline (f := 121) (l := [I6 k1, I6 (xs.length : Int)]) (fn := Try.f121) (c := B121) (by kernel_rfl) (by kernel_rfl) Try.func121 (by kernel_rfl) ?_
         intro Q61 M61 hM61 hQ61 fin61
         refine Ra 12 (Qc B121 13) 0 [Qs B121 7] [(4, VB false), (6, VB (k1 == 2))] ?_
         refine Se 6 rfl ?_ ?_ <;> intro h62
         ·
          refine Rn 10 (.ex .ret) [] ⟨15, [(4, VB ((xs.length : Int) == 1))], []⟩ ?_
          refine fin61 _ _ _ _ [.bool ((xs.length : Int) == 1)] [] (.inl rfl) (by kernel_rfl) (by kernel_rfl) ?_
          refine Rn 5 (.ex .ret) [] ⟨57, [(2, VB ((xs.length : Int) == 1))], []⟩ ?_
          refine Dg (.inl rfl) [.bool ((xs.length : Int) == 1)] [] rfl (Ge.refl _ _) ?_
          refine ⟨congrArg Value.bool ?_, rfl⟩
          rw [List.take_of_length_le (by omega)] at hi2
          rw [fine_eq (show 2 ≤ k1 ∧ k1 ≤ 255 from ⟨by omega, by omega⟩) (show szk k1 ≠ 0 by rw [show k1 = 174 by assumption]; decide), (show (256 : Int) ^ (szk k1).toNat = 16777216 by rw [show k1 = 174 by assumption]; rfl), decide_eq_true (show s1 = ⟨#[]⟩ by assumption), decide_eq_true hi2, show k1 = 174 by assumption, show lk2 174 = 0 from rfl, show mk2 174 = 3 from rfl, Bool.eq_iff_iff]
          simp <;> omega
         ·
          refine Ra 10 (Qc B121 29) 1 [Qs B121 15] [(10, VB (k1 == 8))] ?_
          refine Se 10 rfl ?_ ?_ <;> intro h63
          ·
           refine Rn 10 (.ex .ret) [] ⟨15, [(4, VB ((xs.length : Int) == 2))], []⟩ ?_
           refine fin61 _ _ _ _ [.bool ((xs.length : Int) == 2)] [] (.inl rfl) (by kernel_rfl) (by kernel_rfl) ?_
           refine Rn 5 (.ex .ret) [] ⟨57, [(2, VB ((xs.length : Int) == 2))], []⟩ ?_
           refine Dg (.inl rfl) [.bool ((xs.length : Int) == 2)] [] rfl (Ge.refl _ _) ?_
           refine ⟨congrArg Value.bool ?_, rfl⟩
           rw [List.take_of_length_le (by omega)] at hi2
           rw [fine_eq (show 2 ≤ k1 ∧ k1 ≤ 255 from ⟨by omega, by omega⟩) (show szk k1 ≠ 0 by rw [show k1 = 174 by assumption]; decide), (show (256 : Int) ^ (szk k1).toNat = 16777216 by rw [show k1 = 174 by assumption]; rfl), decide_eq_true (show s1 = ⟨#[]⟩ by assumption), decide_eq_true hi2, show k1 = 174 by assumption, show lk2 174 = 0 from rfl, show mk2 174 = 3 from rfl, Bool.eq_iff_iff]
           simp <;> omega
          ·
           refine Rn 11 (.ex .ret) [] ⟨15, [(4, VB (decide ((xs.length : Int) ≤ 3)))], []⟩ ?_
           refine fin61 _ _ _ _ [.bool (decide ((xs.length : Int) ≤ 3))] [] (.inl rfl) (by kernel_rfl) (by kernel_rfl) ?_
           refine Rn 5 (.ex .ret) [] ⟨57, [(2, VB (decide ((xs.length : Int) ≤ 3)))], []⟩ ?_
           refine Dg (.inl rfl) [.bool (decide ((xs.length : Int) ≤ 3))] [] rfl (Ge.refl _ _) ?_
           refine ⟨congrArg Value.bool ?_, rfl⟩
           rw [List.take_of_length_le (by omega)] at hi2
           rw [fine_eq (show 2 ≤ k1 ∧ k1 ≤ 255 from ⟨by omega, by omega⟩) (show szk k1 ≠ 0 by rw [show k1 = 174 by assumption]; decide), (show (256 : Int) ^ (szk k1).toNat = 16777216 by rw [show k1 = 174 by assumption]; rfl), decide_eq_true (show s1 = ⟨#[]⟩ by assumption), decide_eq_true hi2, show k1 = 174 by assumption, show lk2 174 = 0 from rfl, show mk2 174 = 3 from rfl, Bool.eq_iff_iff]
           simp <;> omega
        ·
         replace h60 : s1 ≠ (⟨#[]⟩ : ByteArray) := strF h60
         refine Rn 11 (.ex .ret) [] ⟨57, [(2, VB false)], []⟩ ?_
         refine Dg (.inl rfl) [.bool false] [] rfl (Ge.refl _ _) ?_
         refine ⟨congrArg Value.bool ?_, rfl⟩
         first | exact (fine_raw (show 2 ≤ k1 ∧ k1 ≤ 255 from ⟨by omega, by omega⟩) (show szk k1 ≠ 0 by rw [show k1 = 174 by assumption]; decide) (by assumption)).symm | exact (fine_big (show 2 ≤ k1 ∧ k1 ≤ 255 from ⟨by omega, by omega⟩) (show szk k1 ≠ 0 by rw [show k1 = 174 by assumption]; decide) (show (256 : Int) ^ (szk k1).toNat = 16777216 by rw [show k1 = 174 by assumption]; rfl) (getD_mem (i := i.toNat) (d := 0) (by omega)) (by omega)).symm
      ·
       refine Rn 9 (.ex .ret) [] ⟨13, [(2, I6 0)], [(1001, ⟨65, [I6 k1, VL A xs.length ca, VT s1]⟩)]⟩ ?_
       refine fin3 _ _ _ _ [N6 0] [(1, ⟨65, [I6 k1, VL A xs.length ca, VT s1]⟩)] (.inl rfl) (by kernel_rfl) (by kernel_rfl) ?_
       refine Rn 22 (.ex .ret) [] ⟨57, [(2, VB ((xs.length : Int) == 0))], []⟩ ?_
       refine Dg (.inl rfl) [.bool ((xs.length : Int) == 0)] [] rfl (Ge.refl _ _) ?_
       refine ⟨congrArg Value.bool ?_, rfl⟩
       rw [fine_free (show 2 ≤ k1 ∧ k1 ≤ 255 from ⟨by omega, by omega⟩) (show szk k1 = 0 by unfold szk; rw [if_neg (by omega), if_neg (by omega), if_neg (by omega)])]
       by_cases h_ : xs.length = 0
       · rw [decide_eq_true h_]; simp [h_]
       · rw [decide_eq_false h_]; simp; exact fun e_ => h_ (by rw [e_]; rfl)
noncomputable def B111 : Code := bodyOf Try.f111
set_option maxHeartbeats 1000000 in
theorem rHad_ok (A : Option Addr) (c : Nat) (xs : List Opt) (k : Int) (G : Mem) (hr : rowAt optD G A xs) (hle : xs.length ≤ c) (hmx : c ≤ maxLen) : CallsG Try.prog 111 [.slice A xs.length c, .int .i64 k] G (fun _ v rows => v = .bool (hadB xs k) ∧ rows = []) := by
 simp only [maxLen] at hmx
 refine CallsG.enter Try.func111 rfl rfl ?_
 intro w
 refine Rn 12 (Qc B111 26) [.blk 0, Qs B111 7] ⟨24, [(0, VL A xs.length c), (1, I6 k), (4, VB false), (5, I6 0)], []⟩ ?_
 refine Rn 0 (Qc B111 26) [.blk 0, Qs B111 7] _ (X.loopJ (fun m s R' G' => ∃ (i : Int), s = ⟨24, [(0, VL A xs.length c), (1, I6 k), (5, I6 i)], []⟩ ∧ R' = [] ∧ G = G' ∧ (0 ≤ i ∧ i ≤ (xs.length : Int) ∧ (0 < szk k → ∀ o ∈ xs.take i.toNat, o.1 ≠ k)) ∧ m = ((xs.length : Int) - i).toNat) _ ⟨0, rfl, rfl, rfl, ⟨by omega, by omega, by simp⟩, rfl⟩ ?_)
 rintro m1 s1 R1 G1 ⟨i, rfl, rfl, rfl, hF1, rfl⟩ J1 hJ1
 obtain ⟨hi0, hi1, hi2⟩ := hF1
 refine Ra 9 (Qc B111 209) 0 [Qs B111 105] [(9, VB (decide (i < (xs.length : Int))))] ?_
 refine Sd 9 rfl ?_ ?_ <;> intro h2
 ·
  refine Ra 9 (Qo B111 840 2) 1 [Qs B111 841, .blk 1, Qs B111 211] [(12, VL A xs.length c), (13, I6 i)] ?_
  refine Ix 59 65 3 A xs.length c .i64 i (.tmp 12) (.tmp 13) (by omega) (by omega) (fun _ _ => rowAt.so hr (by omega)) ?_
  obtain ⟨A5, c5, at5, kr5, le5, mx5, hr5⟩ := At.opt [] hr ((i).toNat) (by omega)
  simp only [IntKind.lo, IntKind.hi, maxLen] at kr5 mx5
  refine Ra 0 (Qo B111 840 3) 0 [] [(14, .v (elt A ((i).toNat * 3)))] ?_
  refine X.field (t := 65) (f := 0) (n := 0) (A := A) (j := (i).toNat * 3) (x := .tmp 14) (by kernel_rfl) (by kernel_rfl) (by kernel_rfl) (by kernel_rfl) ?_
  refine Ra 0 (Qo B111 840 4) 0 [] [(15, .v (elt A ((i).toNat * 3 + 0)))] ?_
  refine Ld 3 A ((i).toNat * 3 + 0) (.tmp 15) (N6 ((xs.getD i.toNat opt0).1)) [N6 ((xs.getD i.toNat opt0).1)] (at5.part 0 1) ?_
  refine Ra 3 (Qo B111 840 8) 0 [] [(19, VB (((xs.getD i.toNat opt0).1) == k))] ?_
  refine Se 19 rfl ?_ ?_ <;> intro h6
  ·
   refine Ra 1 (Qo B111 840 9) 0 [] [(19, VB true), (20, I6 k)] ?_
   refine X.inline (f := 112) (l := [I6 k]) (fn := Try.f112) (c := B112) (by kernel_rfl) (by kernel_rfl) Try.func112 (by kernel_rfl) ?_
   intro Q7 M7 hM7 hQ7 fin7
   refine Ra 12 (Qc B112 13) 0 [Qs B112 7] [(2, I6 0), (4, VB (k == 2))] ?_
   refine Se 4 rfl ?_ ?_ <;> intro h8
   ·
    refine Rn 8 (.ex .ret) [] ⟨13, [(2, I6 2)], []⟩ ?_
    refine fin7 _ _ _ _ [N6 2] [] (.inl rfl) (by kernel_rfl) (by kernel_rfl) ?_
    refine Rn 16 (.ex .ret) [] ⟨24, [(4, VB true)], []⟩ ?_
    refine Dg (.inl rfl) [.bool true] [] rfl (Ge.refl _ _) ?_
    exact ⟨congrArg Value.bool (had_yes (i := i.toNat) (by omega) (by assumption) (by rw [show k = 2 by assumption]; decide)).symm, rfl⟩
   ·
    refine Ra 10 (Qc B112 29) 1 [Qs B112 15] [(6, VB (k == 8))] ?_
    refine Se 6 rfl ?_ ?_ <;> intro h9
    ·
     refine Rn 8 (.ex .ret) [] ⟨13, [(2, I6 4)], []⟩ ?_
     refine fin7 _ _ _ _ [N6 4] [] (.inl rfl) (by kernel_rfl) (by kernel_rfl) ?_
     refine Rn 16 (.ex .ret) [] ⟨24, [(4, VB true)], []⟩ ?_
     refine Dg (.inl rfl) [.bool true] [] rfl (Ge.refl _ _) ?_
     exact ⟨congrArg Value.bool (had_yes (i := i.toNat) (by omega) (by assumption) (by rw [show k = 8 by assumption]; decide)).symm, rfl⟩
    ·
     refine Ra 9 (Qo B112 60 3) 1 [Qs B112 61, Qs B112 31] [(9, VB (k == 172))] ?_
     refine Se 9 rfl ?_ ?_ <;> intro h10
     ·
      refine Rn 13 (.ex .ret) [] ⟨13, [(2, I6 3)], []⟩ ?_
      refine fin7 _ _ _ _ [N6 3] [] (.inl rfl) (by kernel_rfl) (by kernel_rfl) ?_
      refine Rn 16 (.ex .ret) [] ⟨24, [(4, VB true)], []⟩ ?_
      refine Dg (.inl rfl) [.bool true] [] rfl (Ge.refl _ _) ?_
      exact ⟨congrArg Value.bool (had_yes (i := i.toNat) (by omega) (by assumption) (by rw [show k = 172 by assumption]; decide)).symm, rfl⟩
     ·
      refine Ra 5 (Qc B112 61) 1 [] [(12, VB (k == 174))] ?_
      refine Se 12 rfl ?_ ?_ <;> intro h11
      ·
       refine Rn 8 (.ex .ret) [] ⟨13, [(2, I6 3)], []⟩ ?_
       refine fin7 _ _ _ _ [N6 3] [] (.inl rfl) (by kernel_rfl) (by kernel_rfl) ?_
       refine Rn 16 (.ex .ret) [] ⟨24, [(4, VB true)], []⟩ ?_
       refine Dg (.inl rfl) [.bool true] [] rfl (Ge.refl _ _) ?_
       exact ⟨congrArg Value.bool (had_yes (i := i.toNat) (by omega) (by assumption) (by rw [show k = 174 by assumption]; decide)).symm, rfl⟩
      ·
       refine Rn 9 (.ex .ret) [] ⟨13, [(2, I6 0)], []⟩ ?_
       refine fin7 _ _ _ _ [N6 0] [] (.inl rfl) (by kernel_rfl) (by kernel_rfl) ?_
       have e1 : IntKind.i64.wrap (i + 1) = i + 1 := wi64 (by omega) (by omega)
       have e0 : (i + 1).toNat = i.toNat + 1 := by omega
       exact Rn 13 (.ex .normal) [.loop J1, .blk 0, Qs B111 7] _ (X.again (hJ1 _ _ _ _ ⟨IntKind.i64.wrap (i + 1), rfl, rfl, rfl, ⟨by omega, by omega, by rw [e1, e0]; exact fun hz_ => absurd hz_ (by rw [show szk k = 0 by unfold szk; rw [if_neg (by omega), if_neg (by omega), if_neg (by omega)]]; decide)⟩, rfl⟩ (by rw [e1]; omega)))
  ·
   have e1 : IntKind.i64.wrap (i + 1) = i + 1 := wi64 (by omega) (by omega)
   have e0 : (i + 1).toNat = i.toNat + 1 := by omega
   exact Rn 15 (.ex .normal) [.loop J1, .blk 0, Qs B111 7] _ (X.again (hJ1 _ _ _ _ ⟨IntKind.i64.wrap (i + 1), rfl, rfl, rfl, ⟨by omega, by omega, by rw [e1, e0]; exact fun hz_ => take_all (p := fun o : Opt => o.1 ≠ k) (d := opt0) (hi2 hz_) (by omega) (by assumption)⟩, rfl⟩ (by rw [e1]; omega)))
 ·
  refine Rn 12 (.ex .ret) [] ⟨24, [(4, VB false)], []⟩ ?_
  refine Dg (.inl rfl) [.bool false] [] rfl (Ge.refl _ _) ?_
  refine ⟨congrArg Value.bool ?_, rfl⟩
  rw [List.take_of_length_le (by omega)] at hi2
  by_cases hz_ : 0 < szk k
  · exact (had_no (hi2 hz_)).symm
  · exact (had_off hz_).symm
set_option maxHeartbeats 1000000 in
theorem rsize_ok (k : Int) (G : Mem) : CallsG Try.prog 112 [.int .i64 k] G (fun _ v rows => v = .int .i64 (szk k) ∧ rows = []) := by
 refine CallsG.enter Try.func112 rfl rfl ?_
 intro w
 refine Rn 12 (Qc B112 13) [Qs B112 7] ⟨13, [(0, I6 k), (2, I6 0), (4, VB (k == 2))], []⟩ ?_
 refine Se 4 rfl ?_ ?_ <;> intro h1
 ·
  refine Rn 8 (.ex .ret) [] ⟨13, [(2, I6 2)], []⟩ ?_
  refine Dg (.inl rfl) [N6 2] [] rfl (Ge.refl _ _) ?_
  refine ⟨?_, rfl⟩
  unfold szk
  (repeat' split) <;> first | rfl | omega
 ·
  refine Ra 10 (Qc B112 29) 1 [Qs B112 15] [(6, VB (k == 8))] ?_
  refine Se 6 rfl ?_ ?_ <;> intro h2
  ·
   refine Rn 8 (.ex .ret) [] ⟨13, [(2, I6 4)], []⟩ ?_
   refine Dg (.inl rfl) [N6 4] [] rfl (Ge.refl _ _) ?_
   refine ⟨?_, rfl⟩
   unfold szk
   (repeat' split) <;> first | rfl | omega
  ·
   refine Ra 9 (Qo B112 60 3) 1 [Qs B112 61, Qs B112 31] [(9, VB (k == 172))] ?_
   refine Se 9 rfl ?_ ?_ <;> intro h3
   ·
    refine Rn 13 (.ex .ret) [] ⟨13, [(2, I6 3)], []⟩ ?_
    refine Dg (.inl rfl) [N6 3] [] rfl (Ge.refl _ _) ?_
    refine ⟨?_, rfl⟩
    unfold szk
    (repeat' split) <;> first | rfl | omega
   ·
    refine Ra 5 (Qc B112 61) 1 [] [(12, VB (k == 174))] ?_
    refine Se 12 rfl ?_ ?_ <;> intro h4
    ·
     refine Rn 8 (.ex .ret) [] ⟨13, [(2, I6 3)], []⟩ ?_
     refine Dg (.inl rfl) [N6 3] [] rfl (Ge.refl _ _) ?_
     refine ⟨?_, rfl⟩
     unfold szk
     (repeat' split) <;> first | rfl | omega
    ·
     refine Rn 9 (.ex .ret) [] ⟨13, [(2, I6 0)], []⟩ ?_
     refine Dg (.inl rfl) [N6 0] [] rfl (Ge.refl _ _) ?_
     refine ⟨?_, rfl⟩
     unfold szk
     (repeat' split) <;> first | rfl | omega
noncomputable def B113 : Code := bodyOf Try.f113
set_option maxHeartbeats 1000000 in
theorem rput0_ok (x : Int) (hx : 0 ≤ x ∧ x ≤ 4294967295) (G : Mem) : CallsG Try.prog 113 [.int .u32 x, .int .i64 0] G (fun _ v rows => ∃ A c, v = .slice A 0 c ∧ rows = [⟨5, 1, .slice A 0 c, 0, (be x 0).map (Value.int .u8)⟩]) := by
 refine CallsG.enter Try.func113 rfl rfl ?_
 intro w
 refine Rn 20 (.ex .ret) [] ⟨17, [(4, VL none 0 0)], []⟩ ?_
 refine X.nilRow 900 5 1 rfl ?_
 refine Dg (.inl rfl) [.slice none 0 0] [900] rfl (Ge.refl _ _) ?_
 exact ⟨_, _, rfl, rfl⟩
set_option maxHeartbeats 1000000 in
theorem rput1_ok (x : Int) (hx : 0 ≤ x ∧ x ≤ 4294967295) (G : Mem) : CallsG Try.prog 113 [.int .u32 x, .int .i64 1] G (fun _ v rows => ∃ A c, v = .slice A 1 c ∧ rows = [⟨5, 1, .slice A 1 c, 1, (be x 1).map (Value.int .u8)⟩]) := by
 refine CallsG.enter Try.func113 rfl rfl ?_
 intro w
 refine Rn 19 (Qo B113 14 2) [Qs B113 15] ⟨17, [(0, I3 x), (1, I6 1), (4, VL none 0 0), (8, I3 (IntKind.u32.wrap (Int.tdiv x 256)))], []⟩ ?_
 refine Kn 8 .u32 (x / 256) rfl (wdiv_u32 (by omega) (by omega) (by omega)) ?_
 refine Ra 2 (Qo B113 14 4) 0 [] [(8, I3 (x / 256)), (10, I6 0)] ?_
 refine Cg 113 [N3 (x / 256), N6 0] 300 (rput0_ok (x / 256) (by omega) _) ?_
 rintro v1 G1 rows1 hG1 ⟨A1, c1, rfl, rfl⟩
 refine Ra 2 (Qo B113 14 7) 0 [] [(11, VL A1 0 c1), (13, I3 (Int.tmod x 256))] ?_
 refine Kn 13 .u32 (x % 256) rfl (Int.tmod_eq_emod_of_nonneg (by omega)) ?_
 refine Ra 1 (Qo B113 14 8) 0 [] [(14, I8 (IntKind.u8.wrap (x % 256)))] ?_
 refine Kn 14 .u8 (x % 256) rfl (wu8 (by omega) (by omega)) ?_
 refine Lt 15 5 1 1 [N8 (x % 256)] ?_
 intro A2
 refine Ra 0 (Qo B113 14 9) 0 [] [(15, VL A2 1 1)] ?_
 refine Ap 300 _ 22 1 (N8 0) (.tmp 11) (.tmp 15) 0 c1 1 1 A1 A2 [N8 (x % 256)] (.inl rfl) (by kernel_rfl) (Ar 15 rfl) (Br 15 rfl) (ones (by kernel_rfl)) (by decide) ?_
 intro A3 c3 hc3
 refine Tc [15] (cs' := (be (x / 256) 0 ++ [x % 256]).map (Value.int .u8)) (by simp) ?_
 refine Rn 4 (.ex .ret) [] ⟨17, [(4, VL A3 1 c3)], []⟩ ?_
 refine Dg (.inl rfl) [.slice A3 1 c3] [300] rfl (hG1) ?_
 have e_ : be (x / 256) 0 ++ [x % 256] = be x 1 := by rw [be]; rfl
 rw [e_]
 exact ⟨_, _, rfl, rfl⟩
set_option maxHeartbeats 1000000 in
theorem rput2_ok (x : Int) (hx : 0 ≤ x ∧ x ≤ 4294967295) (G : Mem) : CallsG Try.prog 113 [.int .u32 x, .int .i64 2] G (fun _ v rows => ∃ A c, v = .slice A 2 c ∧ rows = [⟨5, 1, .slice A 2 c, 2, (be x 2).map (Value.int .u8)⟩]) := by
 refine CallsG.enter Try.func113 rfl rfl ?_
 intro w
 refine Rn 19 (Qo B113 14 2) [Qs B113 15] ⟨17, [(0, I3 x), (1, I6 2), (4, VL none 0 0), (8, I3 (IntKind.u32.wrap (Int.tdiv x 256)))], []⟩ ?_
 refine Kn 8 .u32 (x / 256) rfl (wdiv_u32 (by omega) (by omega) (by omega)) ?_
 refine Ra 2 (Qo B113 14 4) 0 [] [(8, I3 (x / 256)), (10, I6 1)] ?_
 refine Cg 113 [N3 (x / 256), N6 1] 301 (rput1_ok (x / 256) (by omega) _) ?_
 rintro v1 G1 rows1 hG1 ⟨A1, c1, rfl, rfl⟩
 refine Ra 2 (Qo B113 14 7) 0 [] [(11, VL A1 1 c1), (13, I3 (Int.tmod x 256))] ?_
 refine Kn 13 .u32 (x % 256) rfl (Int.tmod_eq_emod_of_nonneg (by omega)) ?_
 refine Ra 1 (Qo B113 14 8) 0 [] [(14, I8 (IntKind.u8.wrap (x % 256)))] ?_
 refine Kn 14 .u8 (x % 256) rfl (wu8 (by omega) (by omega)) ?_
 refine Lt 15 5 1 1 [N8 (x % 256)] ?_
 intro A2
 refine Ra 0 (Qo B113 14 9) 0 [] [(15, VL A2 1 1)] ?_
 refine Ap 301 _ 22 1 (N8 0) (.tmp 11) (.tmp 15) 1 c1 1 1 A1 A2 [N8 (x % 256)] (.inl rfl) (by kernel_rfl) (Ar 15 rfl) (Br 15 rfl) (ones (by kernel_rfl)) (by decide) ?_
 intro A3 c3 hc3
 refine Tc [15] (cs' := (be (x / 256) 1 ++ [x % 256]).map (Value.int .u8)) (by simp) ?_
 refine Rn 4 (.ex .ret) [] ⟨17, [(4, VL A3 2 c3)], []⟩ ?_
 refine Dg (.inl rfl) [.slice A3 2 c3] [301] rfl (hG1) ?_
 have e_ : be (x / 256) 1 ++ [x % 256] = be x 2 := by rw [be]; rfl
 rw [e_]
 exact ⟨_, _, rfl, rfl⟩
set_option maxHeartbeats 1000000 in
theorem rput3_ok (x : Int) (hx : 0 ≤ x ∧ x ≤ 4294967295) (G : Mem) : CallsG Try.prog 113 [.int .u32 x, .int .i64 3] G (fun _ v rows => ∃ A c, v = .slice A 3 c ∧ rows = [⟨5, 1, .slice A 3 c, 3, (be x 3).map (Value.int .u8)⟩]) := by
 refine CallsG.enter Try.func113 rfl rfl ?_
 intro w
 refine Rn 19 (Qo B113 14 2) [Qs B113 15] ⟨17, [(0, I3 x), (1, I6 3), (4, VL none 0 0), (8, I3 (IntKind.u32.wrap (Int.tdiv x 256)))], []⟩ ?_
 refine Kn 8 .u32 (x / 256) rfl (wdiv_u32 (by omega) (by omega) (by omega)) ?_
 refine Ra 2 (Qo B113 14 4) 0 [] [(8, I3 (x / 256)), (10, I6 2)] ?_
 refine Cg 113 [N3 (x / 256), N6 2] 302 (rput2_ok (x / 256) (by omega) _) ?_
 rintro v1 G1 rows1 hG1 ⟨A1, c1, rfl, rfl⟩
 refine Ra 2 (Qo B113 14 7) 0 [] [(11, VL A1 2 c1), (13, I3 (Int.tmod x 256))] ?_
 refine Kn 13 .u32 (x % 256) rfl (Int.tmod_eq_emod_of_nonneg (by omega)) ?_
 refine Ra 1 (Qo B113 14 8) 0 [] [(14, I8 (IntKind.u8.wrap (x % 256)))] ?_
 refine Kn 14 .u8 (x % 256) rfl (wu8 (by omega) (by omega)) ?_
 refine Lt 15 5 1 1 [N8 (x % 256)] ?_
 intro A2
 refine Ra 0 (Qo B113 14 9) 0 [] [(15, VL A2 1 1)] ?_
 refine Ap 302 _ 22 1 (N8 0) (.tmp 11) (.tmp 15) 2 c1 1 1 A1 A2 [N8 (x % 256)] (.inl rfl) (by kernel_rfl) (Ar 15 rfl) (Br 15 rfl) (ones (by kernel_rfl)) (by decide) ?_
 intro A3 c3 hc3
 refine Tc [15] (cs' := (be (x / 256) 2 ++ [x % 256]).map (Value.int .u8)) (by simp) ?_
 refine Rn 4 (.ex .ret) [] ⟨17, [(4, VL A3 3 c3)], []⟩ ?_
 refine Dg (.inl rfl) [.slice A3 3 c3] [302] rfl (hG1) ?_
 have e_ : be (x / 256) 2 ++ [x % 256] = be x 3 := by rw [be]; rfl
 rw [e_]
 exact ⟨_, _, rfl, rfl⟩
set_option maxHeartbeats 1000000 in
theorem rput4_ok (x : Int) (hx : 0 ≤ x ∧ x ≤ 4294967295) (G : Mem) : CallsG Try.prog 113 [.int .u32 x, .int .i64 4] G (fun _ v rows => ∃ A c, v = .slice A 4 c ∧ rows = [⟨5, 1, .slice A 4 c, 4, (be x 4).map (Value.int .u8)⟩]) := by
 refine CallsG.enter Try.func113 rfl rfl ?_
 intro w
 refine Rn 19 (Qo B113 14 2) [Qs B113 15] ⟨17, [(0, I3 x), (1, I6 4), (4, VL none 0 0), (8, I3 (IntKind.u32.wrap (Int.tdiv x 256)))], []⟩ ?_
 refine Kn 8 .u32 (x / 256) rfl (wdiv_u32 (by omega) (by omega) (by omega)) ?_
 refine Ra 2 (Qo B113 14 4) 0 [] [(8, I3 (x / 256)), (10, I6 3)] ?_
 refine Cg 113 [N3 (x / 256), N6 3] 303 (rput3_ok (x / 256) (by omega) _) ?_
 rintro v1 G1 rows1 hG1 ⟨A1, c1, rfl, rfl⟩
 refine Ra 2 (Qo B113 14 7) 0 [] [(11, VL A1 3 c1), (13, I3 (Int.tmod x 256))] ?_
 refine Kn 13 .u32 (x % 256) rfl (Int.tmod_eq_emod_of_nonneg (by omega)) ?_
 refine Ra 1 (Qo B113 14 8) 0 [] [(14, I8 (IntKind.u8.wrap (x % 256)))] ?_
 refine Kn 14 .u8 (x % 256) rfl (wu8 (by omega) (by omega)) ?_
 refine Lt 15 5 1 1 [N8 (x % 256)] ?_
 intro A2
 refine Ra 0 (Qo B113 14 9) 0 [] [(15, VL A2 1 1)] ?_
 refine Ap 303 _ 22 1 (N8 0) (.tmp 11) (.tmp 15) 3 c1 1 1 A1 A2 [N8 (x % 256)] (.inl rfl) (by kernel_rfl) (Ar 15 rfl) (Br 15 rfl) (ones (by kernel_rfl)) (by decide) ?_
 intro A3 c3 hc3
 refine Tc [15] (cs' := (be (x / 256) 3 ++ [x % 256]).map (Value.int .u8)) (by simp) ?_
 refine Rn 4 (.ex .ret) [] ⟨17, [(4, VL A3 4 c3)], []⟩ ?_
 refine Dg (.inl rfl) [.slice A3 4 c3] [303] rfl (hG1) ?_
 have e_ : be (x / 256) 3 ++ [x % 256] = be x 4 := by rw [be]; rfl
 rw [e_]
 exact ⟨_, _, rfl, rfl⟩
theorem szk_cases (k : Int) : szk k = 0 ∨ szk k = 2 ∨ szk k = 3 ∨ szk k = 4 := by
 unfold szk
 (repeat' split) <;> simp
theorem rput_ok (x k : Int) (hx : 0 ≤ x ∧ x ≤ 4294967295) (G : Mem) : CallsG Try.prog 113 [.int .u32 x, .int .i64 (szk k)] G (fun _ v rows => ∃ A c, v = .slice A (be x (szk k).toNat).length c ∧ rows = [⟨5, 1, .slice A (be x (szk k).toNat).length c, (be x (szk k).toNat).length, (be x (szk k).toNat).map (Value.int .u8)⟩]) := by
 rw [be_len]
 rcases szk_cases k with h | h | h | h <;> rw [h]
 · exact rput0_ok x hx G
 · exact rput2_ok x hx G
 · exact rput3_ok x hx G
 · exact rput4_ok x hx G
noncomputable def B50 : Code := bodyOf Try.f50
set_option maxHeartbeats 4000000 in
theorem rPrint_ok (A : Option Addr) (c : Nat) (xs : List Opt) (G : Mem) (hr : rowAt optD G A xs) (hle : xs.length ≤ c) (hmx : c ≤ maxLen) (hlen : xs.length ≤ 12) (hq : ∀ o ∈ xs, o.2.1.length ≤ 12 ∧ o.2.2.size ≤ 60) : CallsG Try.prog 50 [.slice A xs.length c] G (fun _ v rows => ∃ A' c', v = .tuple #[.slice A' (printO xs).length c', .int .i64 (errO xs)] ∧ rows = [⟨5, 1, .slice A' (printO xs).length c', (printO xs).length, (printO xs).map (Value.int .u8)⟩]) := by
 simp only [maxLen] at hmx
 refine CallsG.enter Try.func50 rfl rfl ?_
 intro w
 refine Rn 18 (Qc B50 58) [.blk 0, Qs B50 15] ⟨115, [(0, VL A xs.length c), (2, VL none 0 0), (3, I6 0), (4, I6 0), (5, I6 0)], []⟩ ?_
 refine Rn 0 (Qc B50 58) [.blk 0, Qs B50 15] _ (X.loopJ (fun m s R' G' => ∃ (mm i : Int), s = ⟨115, [(0, VL A xs.length c), (4, I6 mm), (5, I6 i)], []⟩ ∧ R' = [] ∧ Ge G w.heap.size G' ∧ (0 ≤ i ∧ i ≤ (xs.length : Int) ∧ chk (xs.take i.toNat) (xs.drop i.toNat) = chk [] xs ∧ mm = sumO (xs.take i.toNat) ∧ mm ≤ i * 74) ∧ m = ((xs.length : Int) - i).toNat) _ ⟨0, 0, rfl, rfl, Ge.refl _ _, ⟨by omega, by omega, by simp, by simp [sumO], by omega⟩, rfl⟩ ?_)
 rintro m1 s1 R1 G1 ⟨mm, i, rfl, rfl, hG1, hF1, rfl⟩ J1 hJ1
 replace hr := hr.mono hG1.le
 obtain ⟨hi0, hi1, hck, hm, hmb⟩ := hF1
 have hsn_ := sumO_nn (xs.take i.toNat)
 refine Ra 9 (Qc B50 465) 0 [Qs B50 233] [(13, VB (decide (i < (xs.length : Int))))] ?_
 refine Sd 13 rfl ?_ ?_ <;> intro h2
 ·
  refine Ra 10 (Qo B50 3728 2) 1 [Qs B50 3729, Qs B50 1865, .blk 1, Qs B50 467] [(16, VL A xs.length c), (17, I6 i)] ?_
  refine Ix 59 65 3 A xs.length c .i64 i (.tmp 16) (.tmp 17) (by omega) (by omega) (fun _ _ => rowAt.so hr (by omega)) ?_
  obtain ⟨A5, c5, at5, kr5, le5, mx5, hr5⟩ := At.opt [] hr ((i).toNat) (by omega)
  simp only [IntKind.lo, IntKind.hi, maxLen] at kr5 mx5
  refine Ra 0 (Qo B50 3728 3) 0 [] [(18, .v (elt A ((i).toNat * 3)))] ?_
  refine Ld 65 A ((i).toNat * 3) (.tmp 18) (.agg #[N6 ((xs.getD i.toNat opt0).1), .slice A5 ((xs.getD i.toNat opt0).2.1.length) c5, .string ((xs.getD i.toNat opt0).2.2)]) [N6 ((xs.getD i.toNat opt0).1), .slice A5 ((xs.getD i.toNat opt0).2.1.length) c5, .string ((xs.getD i.toNat opt0).2.2)] at5 ?_
  refine Ra 0 (Qo B50 3728 4) 0 [] [(19, .v (.agg #[N6 ((xs.getD i.toNat opt0).1), .slice A5 ((xs.getD i.toNat opt0).2.1.length) c5, .string ((xs.getD i.toNat opt0).2.2)]))] ?_
  refine Cg 110 [.agg #[N6 ((xs.getD i.toNat opt0).1), .slice A5 ((xs.getD i.toNat opt0).2.1.length) c5, .string ((xs.getD i.toNat opt0).2.2)]] 0 (rfine_ok ((xs.getD i.toNat opt0).1) A5 c5 ((xs.getD i.toNat opt0).2.1) ((xs.getD i.toNat opt0).2.2) _ hr5 le5 mx5) ?_
  rintro v6 G6 rows6 hG6 ⟨rfl, rfl⟩
  replace hr := hr.mono hG6.le
  replace hr5 := hr5.mono hG6.le
  refine Ra 3 (Qc B50 3729) 1 [] [(21, VB (!(fineB ((xs.getD i.toNat opt0).1, (xs.getD i.toNat opt0).2.1, (xs.getD i.toNat opt0).2.2))))] ?_
  refine X.split 21 rfl (fun h7 => ?_) (fun h7 => ?_)
  ·
   replace h7 : (fineB ((xs.getD ((i).toNat) opt0).1, (xs.getD ((i).toNat) opt0).2.1, (xs.getD ((i).toNat) opt0).2.2)) = false := by first | (simpa using h7; done) | (have h_ := congrArg (fun b_ => !b_) h7; simpa only [Bool.not_not, Bool.not_true, Bool.not_false] using h_)
   refine Rn 14 (.ex .ret) [] ⟨115, [(2, VL none 0 0), (3, I6 2)], []⟩ ?_
   refine X.nilRow 900 5 1 rfl ?_
   refine Dg (.inl rfl) [.slice none 0 0, N6 2] [900] rfl ((hG1.trans hG6)) ?_
   have he_ : errO xs = 2 := errO_chk (by rw [← hck]; exact chk_bad (by omega) (by assumption)) (by decide)
   rw [printO_no (by rw [he_]; decide), he_]
   exact ⟨none, 0, rfl, rfl⟩
  ·
   replace h7 : (fineB ((xs.getD ((i).toNat) opt0).1, (xs.getD ((i).toNat) opt0).2.1, (xs.getD ((i).toNat) opt0).2.2)) = true := by first | (simpa using h7; done) | (have h_ := congrArg (fun b_ => !b_) h7; simpa only [Bool.not_not, Bool.not_true, Bool.not_false] using h_)
   have hz_ := fine_prod (o := (xs.getD (i).toNat opt0)) (by assumption)
   have hqy_ := hq (xs.getD (i).toNat opt0) (getD_mem (by omega))
   refine Ra 5 (Qc B50 7460) 1 [Qs B50 7461, Qs B50 3731] [] ?_
   have hr_d8 := hr
   have hr5_d8 := hr5
   refine Oh 7 B50 7460 9 [] [] [] trivial Mt (fun ρ0 => ?_)
   refine Tk 0 9 1 B50 7460 (VL A xs.length c) QOk.ctxG ?_
   refine Tk 1 9 3 B50 7460 (I6 i) QOk.ctxG ?_
   have hlo9 : 0 ≤ (i).toNat := by omega
   have hhi9 : (i).toNat ≤ xs.length := by omega
   refine XD.cut (i := 2) (l' := (lb 9 7)) (o := (oA B50 (pa 7460) 2)) (t := 59) (e := 65) (sz := 3) (n := xs.length) (c := c) (A := A) (x := .tmp 22) (l0 := none) (h := (some (.tmp 23))) (lv := none) (hv := (some (N6 i))) 0 i.toNat QOk.ctxG (by kernel_rfl) (by kernel_rfl) (by kernel_rfl) (by kernel_rfl) (by kernel_rfl) (by kernel_rfl) (by kernel_rfl) (by kernel_rfl) (by kernel_rfl) (rfl) (⟨_, _, rfl, by omega, rfl⟩) hlo9 (Nat.le_trans hhi9 hle) (by kernel_rfl) ?_
   obtain ⟨A9, hA9⟩ : ∃ A_, cutA A c 0 3 = A_ := ⟨_, rfl⟩
   obtain ⟨ys9, hys9⟩ : ∃ l_, (xs.take ((i).toNat)).drop 0 = l_ := ⟨_, rfl⟩
   have hr9 : rowAt optD G6 (cutA A c 0 3) ((xs.take ((i).toNat)).drop 0) := rowAt_cut hr hlo9 hhi9 hle
   have hl9 : ((i).toNat) - 0 = ys9.length := by rw [← hys9, List.length_drop, List.length_take]; omega
   have hc9 : ys9.length ≤ c - 0 := by omega
   have hm9 : c - 0 ≤ maxLen := Nat.le_trans (Nat.sub_le _ _) hmx
   rw [hys9, show cutA A c 0 _ = A9 from hA9] at hr9
   rw [hA9, hl9]
   refine Tk 3 9 15 B50 7460 (VL A xs.length c) QOk.ctxG ?_
   refine Tk 4 9 31 B50 7460 (I6 i) QOk.ctxG ?_
   have b10 : (0 : Int) ≤ i := by omega
   have b11 : i < ((xs.length : Nat) : Int) := by omega
   obtain ⟨A12, c12, at12, kr12, le12, mx12, hr12⟩ := At.opt [] hr_d8 ((i).toNat) (by omega)
   simp only [IntKind.lo, IntKind.hi, maxLen] at kr12 mx12
   refine Dx 5 9 63 B50 7460 59 65 3 A xs.length c .i64 i (.tmp 25) (.tmp 26) QOk.ctxG b10 b11 (fun _ _ => rowAt.so hr_d8 (by omega)) ?_
   refine XD.field (i := 6) (l' := (lb 9 127)) (o := (oA B50 (pa 7460) 6)) (t := 65) (f := 0) (n := 0) (A := A) (j := (i).toNat * 3) (x := .tmp 27) QOk.ctxG (by kernel_rfl) (by kernel_rfl) (by kernel_rfl) (by kernel_rfl) (by kernel_rfl) (by kernel_rfl) (by kernel_rfl) ?_
   refine Dl 7 9 255 B50 7460 3 A ((i).toNat * 3 + 0) (.tmp 28) (N6 ((xs.getD i.toNat opt0).1)) [N6 ((xs.getD i.toNat opt0).1)] QOk.ctxG (at12.part 0 1) ?_
   refine Do 8 9 511 B50 7460 ?_
   refine Cg 111 [.slice A9 ys9.length (c - 0), N6 ((xs.getD i.toNat opt0).1)] 0 (rHad_ok A9 (c - 0) ys9 ((xs.getD i.toNat opt0).1) _ hr9 hc9 hm9) ?_
   rintro v13 G13 rows13 hG13 ⟨rfl, rfl⟩
   replace hr := hr.mono hG13.le
   replace hr5 := hr5.mono hG13.le
   replace hr9 := hr9.mono hG13.le
   replace hr12 := hr12.mono hG13.le
   refine X.back ⟨trivial, hG13.le, rfl, ?_⟩
   refine XD.done (by kernel_rfl) ?_
   refine Ra 1 (Qc B50 7461) 1 [] [(30, VB (hadB ys9 ((xs.getD i.toNat opt0).1)))] ?_
   refine X.split 30 rfl (fun h14 => ?_) (fun h14 => ?_)
   ·
    refine Rn 14 (.ex .ret) [] ⟨115, [(2, VL none 0 0), (3, I6 5)], []⟩ ?_
    refine X.nilRow 900 5 1 rfl ?_
    have hh_ : hadB ys9 (xs.getD (i).toNat opt0).1 = true := by assumption
    rw [← hys9] at hh_
    refine Dg (.inl rfl) [.slice none 0 0, N6 5] [900] rfl (((hG1.trans hG6).trans hG13)) ?_
    have he_ : errO xs = 5 := errO_chk (by rw [← hck]; exact chk_had (by omega) (by assumption) hh_) (by decide)
    rw [printO_no (by rw [he_]; decide), he_]
    exact ⟨none, 0, rfl, rfl⟩
   ·
    refine Ra 3 (Qc B50 3731) 1 [] [] ?_
    have hr_d15 := hr
    have hr5_d15 := hr5
    have hr9_d15 := hr9
    have hr12_d15 := hr12
    refine Oh 9 B50 3731 24 [] [] [] trivial Mt (fun ρ0 => ?_)
    refine Tk 0 24 1 B50 3731 (I6 mm) QOk.ctxG ?_
    refine Tk 1 24 3 B50 3731 (I6 (IntKind.i64.wrap (mm + 2))) QOk.ctxG ?_
    refine Dk 32 .i64 (mm + 2) rfl (wi64 (by omega) (by omega)) ?_
    refine Tk 2 24 7 B50 3731 (VL A xs.length c) QOk.ctxG ?_
    refine Tk 3 24 15 B50 3731 (I6 i) QOk.ctxG ?_
    have b16 : (0 : Int) ≤ i := by omega
    have b17 : i < ((xs.length : Nat) : Int) := by omega
    obtain ⟨A18, c18, at18, kr18, le18, mx18, hr18⟩ := At.opt [] hr_d15 ((i).toNat) (by omega)
    simp only [IntKind.lo, IntKind.hi, maxLen] at kr18 mx18
    refine Dx 4 24 31 B50 3731 59 65 3 A xs.length c .i64 i (.tmp 33) (.tmp 34) QOk.ctxG b16 b17 (fun _ _ => rowAt.so hr_d15 (by omega)) ?_
    refine XD.field (i := 5) (l' := (lb 24 63)) (o := (oA B50 (pa 3731) 5)) (t := 65) (f := 1) (n := 1) (A := A) (j := (i).toNat * 3) (x := .tmp 35) QOk.ctxG (by kernel_rfl) (by kernel_rfl) (by kernel_rfl) (by kernel_rfl) (by kernel_rfl) (by kernel_rfl) (by kernel_rfl) ?_
    refine Dl 6 24 127 B50 3731 63 A ((i).toNat * 3 + 1) (.tmp 36) (.slice A18 ((xs.getD i.toNat opt0).2.1.length) c18) [.slice A18 ((xs.getD i.toNat opt0).2.1.length) c18] QOk.ctxG (at18.part 1 1) ?_
    refine Tk 7 24 255 B50 3731 (I6 (((xs.getD i.toNat opt0).2.1.length : Nat) : Int)) QOk.ctxG ?_
    refine Tk 8 24 511 B50 3731 (VL A xs.length c) QOk.ctxG ?_
    refine Tk 9 24 1023 B50 3731 (I6 i) QOk.ctxG ?_
    have b19 : (0 : Int) ≤ i := by omega
    have b20 : i < ((xs.length : Nat) : Int) := by omega
    obtain ⟨A21, c21, at21, kr21, le21, mx21, hr21⟩ := At.opt [] hr_d15 ((i).toNat) (by omega)
    simp only [IntKind.lo, IntKind.hi, maxLen] at kr21 mx21
    refine Dx 10 24 2047 B50 3731 59 65 3 A xs.length c .i64 i (.tmp 39) (.tmp 40) QOk.ctxG b19 b20 (fun _ _ => rowAt.so hr_d15 (by omega)) ?_
    refine XD.field (i := 11) (l' := (lb 24 4095)) (o := (oA B50 (pa 3731) 11)) (t := 65) (f := 0) (n := 0) (A := A) (j := (i).toNat * 3) (x := .tmp 41) QOk.ctxG (by kernel_rfl) (by kernel_rfl) (by kernel_rfl) (by kernel_rfl) (by kernel_rfl) (by kernel_rfl) (by kernel_rfl) ?_
    refine Dl 12 24 8191 B50 3731 3 A ((i).toNat * 3 + 0) (.tmp 42) (N6 ((xs.getD i.toNat opt0).1)) [N6 ((xs.getD i.toNat opt0).1)] QOk.ctxG (at21.part 0 1) ?_
    refine Tk 16 24 73727 B50 3731 (VL A xs.length c) QOk.ctxG ?_
    refine Tk 17 24 204799 B50 3731 (I6 i) QOk.ctxG ?_
    have b22 : (0 : Int) ≤ i := by omega
    have b23 : i < ((xs.length : Nat) : Int) := by omega
    obtain ⟨A24, c24, at24, kr24, le24, mx24, hr24⟩ := At.opt [] hr_d15 ((i).toNat) (by omega)
    simp only [IntKind.lo, IntKind.hi, maxLen] at kr24 mx24
    refine Dx 18 24 466943 B50 3731 59 65 3 A xs.length c .i64 i (.tmp 47) (.tmp 48) QOk.ctxG b22 b23 (fun _ _ => rowAt.so hr_d15 (by omega)) ?_
    refine XD.field (i := 19) (l' := (lb 24 991231)) (o := (oA B50 (pa 3731) 19)) (t := 65) (f := 2) (n := 2) (A := A) (j := (i).toNat * 3) (x := .tmp 49) QOk.ctxG (by kernel_rfl) (by kernel_rfl) (by kernel_rfl) (by kernel_rfl) (by kernel_rfl) (by kernel_rfl) (by kernel_rfl) ?_
    refine Dl 20 24 2039807 B50 3731 9 A ((i).toNat * 3 + 2) (.tmp 50) (.string ((xs.getD i.toNat opt0).2.2)) [.string ((xs.getD i.toNat opt0).2.2)] QOk.ctxG (at24.part 2 1) ?_
    refine Td [21] 24 4136959 5 QOk.ctxG [(32, I6 (mm + 2)), (38, I6 (((xs.getD i.toNat opt0).2.1.length : Nat) : Int)), (43, I6 ((xs.getD i.toNat opt0).1)), (52, I6 (((xs.getD i.toNat opt0).2.2).size : Int))] trivial ?_
    refine Do 13 24 4145151 B50 3731 ?_
    refine Cg 112 [N6 ((xs.getD i.toNat opt0).1)] 0 (rsize_ok ((xs.getD i.toNat opt0).1) _) ?_
    rintro v25 G25 rows25 hG25 ⟨rfl, rfl⟩
    replace hr := hr.mono hG25.le
    replace hr5 := hr5.mono hG25.le
    replace hr9 := hr9.mono hG25.le
    replace hr12 := hr12.mono hG25.le
    replace hr18 := hr18.mono hG25.le
    replace hr21 := hr21.mono hG25.le
    replace hr24 := hr24.mono hG25.le
    refine X.back ⟨trivial, hG25.le, rfl, ?_⟩
    refine Tk 14 24 4161535 B50 3731 (I6 (IntKind.i64.wrap ((((xs.getD i.toNat opt0).2.1.length : Nat) : Int) * (szk ((xs.getD i.toNat opt0).1))))) QOk.ctxG ?_
    refine Dk 45 .i64 ((((xs.getD i.toNat opt0).2.1.length : Nat) : Int) * (szk ((xs.getD i.toNat opt0).1))) rfl (wi64 (by omega) (by omega)) ?_
    refine Tk 15 24 4194303 B50 3731 (I6 (IntKind.i64.wrap ((mm + 2) + ((((xs.getD i.toNat opt0).2.1.length : Nat) : Int) * (szk ((xs.getD i.toNat opt0).1)))))) QOk.ctxG ?_
    refine Dk 46 .i64 ((mm + 2) + ((((xs.getD i.toNat opt0).2.1.length : Nat) : Int) * (szk ((xs.getD i.toNat opt0).1)))) rfl (wi64 (by omega) (by omega)) ?_
    refine Tk 22 24 8388607 B50 3731 (I6 (IntKind.i64.wrap (((mm + 2) + ((((xs.getD i.toNat opt0).2.1.length : Nat) : Int) * (szk ((xs.getD i.toNat opt0).1)))) + (((xs.getD i.toNat opt0).2.2).size : Int)))) QOk.ctxG ?_
    refine Dk 53 .i64 (((mm + 2) + ((((xs.getD i.toNat opt0).2.1.length : Nat) : Int) * (szk ((xs.getD i.toNat opt0).1)))) + (((xs.getD i.toNat opt0).2.2).size : Int)) rfl (wi64 (by omega) (by omega)) ?_
    refine Ts [23] 24 16777215 0 1 QOk.ctxG ?_
    refine XD.done (by kernel_rfl) ?_
    have e1 : IntKind.i64.wrap (i + 1) = i + 1 := wi64 (by omega) (by omega)
    have e0 : (i + 1).toNat = i.toNat + 1 := by omega
    have hh_ : hadB ys9 (xs.getD (i).toNat opt0).1 = false := by assumption
    rw [← hys9] at hh_
    exact Rn 7 (.ex .normal) [.loop J1, .blk 0, Qs B50 15] _ (X.again (hJ1 _ _ _ _ ⟨((mm + 2) + ((((xs.getD i.toNat opt0).2.1.length : Nat) : Int) * (szk ((xs.getD i.toNat opt0).1)))) + (((xs.getD i.toNat opt0).2.2).size : Int), IntKind.i64.wrap (i + 1), rfl, rfl, (((hG1.trans hG6).trans hG13).trans hG25), ⟨by omega, by omega, by rw [e1, e0, chk_step (by omega) (by assumption) hh_]; exact hck, by rw [e1, e0, sumO_step (by omega), optLen]; omega, by omega⟩, rfl⟩ (by rw [e1]; omega)))
 ·
  refine Rc 13 (Qc B50 61) 4 [Qs B50 31] [(55, VB (decide (mm > 40)))] [4, 5] ?_
  refine Sd 55 rfl ?_ ?_ <;> intro h26
  ·
   have hc_ : chk [] xs = 0 := by rw [← hck]; exact chk_nil (by omega)
   rw [List.take_of_length_le (show xs.length ≤ i.toNat by omega)] at hm
   refine Rn 9 (.ex .ret) [] ⟨115, [(2, VL none 0 0), (3, I6 4)], []⟩ ?_
   refine X.nilRow 900 5 1 rfl ?_
   refine Dg (.inl rfl) [.slice none 0 0, N6 4] [900] rfl (hG1) ?_
   have he_ : errO xs = 4 := errO_long hc_ (by omega)
   rw [printO_no (by rw [he_]; decide), he_]
   exact ⟨none, 0, rfl, rfl⟩
  ·
   have hc_ : chk [] xs = 0 := by rw [← hck]; exact chk_nil (by omega)
   rw [List.take_of_length_le (show xs.length ≤ i.toNat by omega)] at hm
   have hsum_ : sumO xs ≤ 40 := by omega
   have hfin_ := chk_all hc_
   refine Rn 15 (Qc B50 506) [.blk 2, Qs B50 127] ⟨115, [(0, VL A xs.length c), (6, VL none 0 0), (7, I6 0)], []⟩ ?_
   refine X.nilRow 20 5 1 rfl ?_
   refine X.loopJ (fun m s R' G' => ∃ (B_ : Option Addr) (c_ n_ : Nat) (l_ : List Int) (j : Int), s = ⟨115, [(0, VL A xs.length c), (6, VL B_ n_ c_), (7, I6 j)], []⟩ ∧ R' = [(20, RR 5 1 B_ n_ c_ ((l_).map (Value.int .u8)))] ∧ Ge G1 w.heap.size G' ∧ (0 ≤ j ∧ j ≤ (xs.length : Int) ∧ l_ = bodyO (xs.take j.toNat) ∧ n_ = l_.length) ∧ m = ((xs.length : Int) - j).toNat) _ ⟨none, 0, 0, [], 0, rfl, rfl, Ge.refl _ _, ⟨by omega, by omega, by simp [bodyO], rfl⟩, rfl⟩ ?_
   rintro m27 s27 R27 G27 ⟨B_, c_, n_, l_, j, rfl, rfl, hG27, hF27, rfl⟩ J27 hJ27
   replace hr := hr.mono hG27.le
   obtain ⟨hj0, hj1, hl, hnl⟩ := hF27
   have hn : (n_ : Int) = sumO (xs.take j.toNat) := by rw [← bodyO_len, ← hl, hnl]
   refine Ra 9 (Qc B50 4049) 0 [Qs B50 2025] [(59, VB (decide (j < (xs.length : Int))))] ?_
   refine Sd 59 rfl ?_ ?_ <;> intro h28
   ·
    have hz_ := fine_prod (hfin_ (xs.getD (j).toNat opt0) (getD_mem (by omega)))
    have hqy_ := hq (xs.getD (j).toNat opt0) (getD_mem (by omega))
    have hsz_ := szk_nn (xs.getD (j).toNat opt0).1
    have hsl_ : sumO (xs.take j.toNat) + optLen (xs.getD (j).toNat opt0) ≤ 40 := by rw [← sumO_step (by omega)]; exact Int.le_trans (sumO_le xs _) hsum_
    have hol_ : optLen (xs.getD (j).toNat opt0) = 2 + ((xs.getD (j).toNat opt0).2.1.length : Int) * szk (xs.getD (j).toNat opt0).1 + ((xs.getD (j).toNat opt0).2.2.size : Int) := rfl
    refine Ra 9 (Qo B50 16200 2) 1 [Qs B50 16201, .blk 3, Qs B50 4051] [(62, VL A xs.length c), (63, I6 j)] ?_
    refine Ix 59 65 3 A xs.length c .i64 j (.tmp 62) (.tmp 63) (by omega) (by omega) (fun _ _ => rowAt.so hr (by omega)) ?_
    obtain ⟨A31, c31, at31, kr31, le31, mx31, hr31⟩ := At.opt [(20, ⟨5, 1, .slice B_ n_ c_, n_, (l_).map (Value.int .u8)⟩)] hr ((j).toNat) (by omega)
    simp only [IntKind.lo, IntKind.hi, maxLen] at kr31 mx31
    refine Ra 0 (Qo B50 16200 3) 0 [] [(64, .v (elt A ((j).toNat * 3)))] ?_
    refine Ld 65 A ((j).toNat * 3) (.tmp 64) (.agg #[N6 ((xs.getD j.toNat opt0).1), .slice A31 ((xs.getD j.toNat opt0).2.1.length) c31, .string ((xs.getD j.toNat opt0).2.2)]) [N6 ((xs.getD j.toNat opt0).1), .slice A31 ((xs.getD j.toNat opt0).2.1.length) c31, .string ((xs.getD j.toNat opt0).2.2)] at31 ?_
    refine Rb 5 (Qc B50 32402) 1 [Qs B50 32403] [(8, .own 8 0)] [] [(8, ⟨65, [I6 ((xs.getD j.toNat opt0).1), VL A31 ((xs.getD j.toNat opt0).2.1.length) c31, VT ((xs.getD j.toNat opt0).2.2)]⟩)] [] ?_
    have hr_d32 := hr
    have hr31_d32 := hr31
    refine Oh 17 B50 32402 20 [⟨some 8, 8, 65, [I6 ((xs.getD j.toNat opt0).1), VL A31 ((xs.getD j.toNat opt0).2.1.length) c31, VT ((xs.getD j.toNat opt0).2.2)]⟩] [] [] ⟨P1, trivial⟩ Mt (fun ρ0 => ?_)
    refine Td [0, 1, 2, 3, 4, 5, 6, 7, 8, 12, 13, 14] 20 29183 8 QOk.ctxG [(66, VL B_ n_ c_), (69, I8 (IntKind.u8.wrap ((xs.getD j.toNat opt0).1))), (72, I6 (((xs.getD j.toNat opt0).2.1.length : Nat) : Int)), (74, I6 ((xs.getD j.toNat opt0).1)), (80, I6 (((xs.getD j.toNat opt0).2.2).size : Int))] ⟨P1, trivial⟩ ?_
    refine Do 9 20 29695 B50 32402 ?_
    refine Cg 112 [N6 ((xs.getD j.toNat opt0).1)] 0 (rsize_ok ((xs.getD j.toNat opt0).1) _) ?_
    rintro v33 G33 rows33 hG33 ⟨rfl, rfl⟩
    replace hr := hr.mono hG33.le
    replace hr31 := hr31.mono hG33.le
    refine X.back ⟨⟨P1, trivial⟩, hG33.le, rfl, ?_⟩
    refine Tk 10 20 30719 B50 32402 (I6 (IntKind.i64.wrap ((((xs.getD j.toNat opt0).2.1.length : Nat) : Int) * (szk ((xs.getD j.toNat opt0).1))))) QOk.ctxG ?_
    refine Dk 76 .i64 ((((xs.getD j.toNat opt0).2.1.length : Nat) : Int) * (szk ((xs.getD j.toNat opt0).1))) rfl (wi64 (by omega) (by omega)) ?_
    refine Tk 11 20 32767 B50 32402 (I6 (IntKind.i64.wrap (2 + ((((xs.getD j.toNat opt0).2.1.length : Nat) : Int) * (szk ((xs.getD j.toNat opt0).1)))))) QOk.ctxG ?_
    refine Dk 77 .i64 (2 + ((((xs.getD j.toNat opt0).2.1.length : Nat) : Int) * (szk ((xs.getD j.toNat opt0).1)))) rfl (wi64 (by omega) (by omega)) ?_
    refine Tk 15 20 65535 B50 32402 (I6 (IntKind.i64.wrap ((2 + ((((xs.getD j.toNat opt0).2.1.length : Nat) : Int) * (szk ((xs.getD j.toNat opt0).1)))) + (((xs.getD j.toNat opt0).2.2).size : Int)))) QOk.ctxG ?_
    refine Dk 81 .i64 ((2 + ((((xs.getD j.toNat opt0).2.1.length : Nat) : Int) * (szk ((xs.getD j.toNat opt0).1)))) + (((xs.getD j.toNat opt0).2.2).size : Int)) rfl (wi64 (by omega) (by omega)) ?_
    refine Td [16] 20 131071 3 QOk.ctxG [(82, I8 (IntKind.u8.wrap ((2 + ((((xs.getD j.toNat opt0).2.1.length : Nat) : Int) * (szk ((xs.getD j.toNat opt0).1)))) + (((xs.getD j.toNat opt0).2.2).size : Int))))] ⟨P1, trivial⟩ ?_
    refine Do 17 20 262143 B50 32402 ?_
    refine Lt 83 5 1 2 [N8 (IntKind.u8.wrap ((xs.getD j.toNat opt0).1)), N8 (IntKind.u8.wrap ((2 + ((((xs.getD j.toNat opt0).2.1.length : Nat) : Int) * (szk ((xs.getD j.toNat opt0).1)))) + (((xs.getD j.toNat opt0).2.2).size : Int)))] ?_
    intro A34
    refine X.back ⟨⟨P1, trivial⟩, hG33.le, rfl, ?_⟩
    refine Dn ⟨115, [(0, VL A xs.length c), (6, VL B_ n_ c_), (7, I6 j), (8, .own 8 0), (66, VL B_ n_ c_), (83, VL A34 2 2)], [(8, ⟨65, [I6 ((xs.getD j.toNat opt0).1), VL A31 ((xs.getD j.toNat opt0).2.1.length) c31, VT ((xs.getD j.toNat opt0).2.2)]⟩)]⟩ ⟨P1, trivial⟩ ?_
    refine Do 18 20 524287 B50 32402 ?_
    refine Ap 20 _ 22 1 (N8 0) (.tmp 66) (.tmp 83) n_ c_ 2 2 B_ A34 [N8 (IntKind.u8.wrap ((xs.getD j.toNat opt0).1)), N8 (IntKind.u8.wrap ((2 + ((((xs.getD j.toNat opt0).2.1.length : Nat) : Int) * (szk ((xs.getD j.toNat opt0).1)))) + (((xs.getD j.toNat opt0).2.2).size : Int)))] (.inl rfl) (by kernel_rfl) (Ar 83 rfl) (Br 83 rfl) (ones (by kernel_rfl)) (by omega) ?_
    intro A35 c35 hc35
    refine Tc [83] (cs' := (l_ ++ [IntKind.u8.wrap ((xs.getD j.toNat opt0).1), IntKind.u8.wrap ((2 + ((((xs.getD j.toNat opt0).2.1.length : Nat) : Int) * (szk ((xs.getD j.toNat opt0).1)))) + (((xs.getD j.toNat opt0).2.2).size : Int))]).map (Value.int .u8)) (by simp) ?_
    refine X.back ⟨⟨P1, trivial⟩, hG33.le, rfl, ?_⟩
    refine Ts [19] 20 1048575 0 1 QOk.ctxG ?_
    refine XD.done (by kernel_rfl) ?_
    refine Tr [20] ?_
    refine Rn 8 (Qc B50 259226) [.blk 4, Qs B50 64807, .blk 3, Qs B50 4051, .loop J27, .blk 2, Qs B50 127] _ (X.loopJ (fun m s R' G' => ∃ (D_ : Option Addr) (d_ m_ : Nat) (p_ : List Int) (q : Int), s = ⟨115, [(0, VL A xs.length c), (6, VL D_ m_ d_), (7, I6 j), (8, .own 8 0), (9, I6 q)], [(8, ⟨65, [I6 ((xs.getD j.toNat opt0).1), VL A31 ((xs.getD j.toNat opt0).2.1.length) c31, VT ((xs.getD j.toNat opt0).2.2)]⟩)]⟩ ∧ R' = [(20, RR 5 1 D_ m_ d_ ((p_).map (Value.int .u8)))] ∧ Ge G33 w.heap.size G' ∧ (0 ≤ q ∧ q ≤ ((xs.getD (j).toNat opt0).2.1.length : Int) ∧ p_ = l_ ++ putH (xs.getD (j).toNat opt0) ++ numsB (xs.getD (j).toNat opt0).1 ((xs.getD (j).toNat opt0).2.1.take q.toNat) ∧ m_ = p_.length ∧ (m_ : Int) ≤ n_ + 2 + q * 4) ∧ m = (((xs.getD (j).toNat opt0).2.1.length : Int) - q).toNat) _ ⟨A35, c35, n_ + 2, l_ ++ [IntKind.u8.wrap ((xs.getD j.toNat opt0).1), IntKind.u8.wrap ((2 + ((((xs.getD j.toNat opt0).2.1.length : Nat) : Int) * (szk ((xs.getD j.toNat opt0).1)))) + (((xs.getD j.toNat opt0).2.2).size : Int))], 0, rfl, rfl, Ge.refl _ _, ⟨by omega, by omega, put_head (o := (xs.getD (j).toNat opt0)) l_ rfl rfl, by rw [List.length_append, ← hnl]; rfl, by omega⟩, rfl⟩ ?_)
    rintro m36 s36 R36 G36 ⟨D_, d_, m_, p_, q, rfl, rfl, hG36, hF36, rfl⟩ J36 hJ36
    replace hr := hr.mono hG36.le
    replace hr31 := hr31.mono hG36.le
    obtain ⟨hq0, hq1, hp, hmp, hm_⟩ := hF36
    refine Ra 10 (Qc B50 2073809) 0 [Qs B50 1036905] [(89, VB (decide (q < (((xs.getD j.toNat opt0).2.1.length : Nat) : Int))))] ?_
    refine Sd 89 rfl ?_ ?_ <;> intro h37
    ·
     refine Ra 5 (Qc B50 4147620) 1 [.blk 5, Qs B50 2073811] [] ?_
     have hr_d38 := hr
     have hr31_d38 := hr31
     refine Oh 21 B50 4147620 12 [⟨some 8, 8, 65, [I6 ((xs.getD j.toNat opt0).1), VL A31 ((xs.getD j.toNat opt0).2.1.length) c31, VT ((xs.getD j.toNat opt0).2.2)]⟩] [] [] ⟨P1, trivial⟩ Mt (fun ρ0 => ?_)
     refine Tk 0 12 1 B50 4147620 (VL D_ m_ d_) QOk.ctxG ?_
     refine Tk 1 12 3 B50 4147620 (.own 8 1) QOk.ctxG ?_
     refine Tk 2 12 7 B50 4147620 (VL A31 ((xs.getD j.toNat opt0).2.1.length) c31) QOk.ctxG ?_
     refine Tk 3 12 15 B50 4147620 (I6 q) QOk.ctxG ?_
     have b39 : (0 : Int) ≤ q := by omega
     have b40 : q < (((xs.getD ((j).toNat) opt0).2.1.length : Nat) : Int) := by omega
     obtain ⟨at41, lo41, hi41⟩ := At.int [] hr31_d38 ((q).toNat) (by omega)
     simp only [IntKind.lo, IntKind.hi] at lo41 hi41
     refine Dx 4 12 31 B50 4147620 63 29 1 A31 ((xs.getD j.toNat opt0).2.1.length) c31 .i64 q (.tmp 94) (.tmp 95) QOk.ctxG b39 b40 (fun _ _ => rowAt.so hr31_d38 (by omega)) ?_
     refine Dl 5 12 63 B50 4147620 29 A31 ((q).toNat * 1) (.tmp 96) (N3 (((xs.getD j.toNat opt0).2.1).getD q.toNat 0)) [N3 (((xs.getD j.toNat opt0).2.1).getD q.toNat 0)] QOk.ctxG at41 ?_
     refine Td [6, 7] 12 255 4 QOk.ctxG [(92, VL D_ m_ d_), (97, I3 (((xs.getD j.toNat opt0).2.1).getD q.toNat 0)), (99, I6 ((xs.getD j.toNat opt0).1))] ⟨P1, trivial⟩ ?_
     refine Do 8 12 511 B50 4147620 ?_
     refine Cg 112 [N6 ((xs.getD j.toNat opt0).1)] 0 (rsize_ok ((xs.getD j.toNat opt0).1) _) ?_
     rintro v42 G42 rows42 hG42 ⟨rfl, rfl⟩
     replace hr := hr.mono hG42.le
     replace hr31 := hr31.mono hG42.le
     refine X.back ⟨⟨P1, trivial⟩, hG42.le, rfl, ?_⟩
     refine Dn ⟨115, [(0, VL A xs.length c), (6, VL D_ m_ d_), (7, I6 j), (8, .own 8 0), (9, I6 q), (92, VL D_ m_ d_), (97, I3 (((xs.getD j.toNat opt0).2.1).getD q.toNat 0)), (100, I6 (szk ((xs.getD j.toNat opt0).1)))], [(8, ⟨65, [I6 ((xs.getD j.toNat opt0).1), VL A31 ((xs.getD j.toNat opt0).2.1.length) c31, VT ((xs.getD j.toNat opt0).2.2)]⟩)]⟩ ⟨P1, trivial⟩ ?_
     refine Do 9 12 1023 B50 4147620 ?_
     refine Cg 113 [N3 (((xs.getD j.toNat opt0).2.1).getD q.toNat 0), N6 (szk ((xs.getD j.toNat opt0).1))] 300 (rput_ok (((xs.getD j.toNat opt0).2.1).getD q.toNat 0) ((xs.getD j.toNat opt0).1) (by omega) _) ?_
     rintro v43 G43 rows43 hG43 ⟨A43, c43, rfl, rfl⟩
     replace hr := hr.mono hG43.le
     replace hr31 := hr31.mono hG43.le
     have hbl43 := be_len (((xs.getD ((j).toNat) opt0).2.1).getD ((q).toNat) 0) (szk ((xs.getD ((j).toNat) opt0).1)).toNat
     refine X.back ⟨⟨P1, trivial⟩, (hG42.trans hG43).le, rfl, ?_⟩
     refine Do 10 12 2047 B50 4147620 ?_
     refine Ap 20 _ 22 1 (N8 0) (.tmp 92) (.tmp 101) m_ d_ ((be (((xs.getD j.toNat opt0).2.1).getD q.toNat 0) (szk ((xs.getD j.toNat opt0).1)).toNat).length) c43 D_ A43 ((be (((xs.getD j.toNat opt0).2.1).getD q.toNat 0) (szk ((xs.getD j.toNat opt0).1)).toNat).map (Value.int .u8)) (.inl rfl) (by simp) (Ar 300 rfl) (fun w hw e => rowNone2 (i := 300) (q := (RR 5 1 A43 ((be (((xs.getD j.toNat opt0).2.1).getD q.toNat 0) (szk ((xs.getD j.toNat opt0).1)).toNat).length) c43 ((be (((xs.getD j.toNat opt0).2.1).getD q.toNat 0) (szk ((xs.getD j.toNat opt0).1)).toNat).map (Value.int .u8)))) rfl rfl w hw e) ones_ints (by omega) ?_
     intro A44 c44 hc44
     refine Tc [300] (cs' := (p_ ++ (be (((xs.getD j.toNat opt0).2.1).getD q.toNat 0) (szk ((xs.getD j.toNat opt0).1)).toNat)).map (Value.int .u8)) (by simp) ?_
     refine X.back ⟨⟨P1, trivial⟩, (hG42.trans hG43).le, rfl, ?_⟩
     refine Ts [11] 12 4095 0 1 QOk.ctxG ?_
     refine XD.done (by kernel_rfl) ?_
     refine Tr [20] ?_
     have e1 : IntKind.i64.wrap (q + 1) = q + 1 := wi64 (by omega) (by omega)
     have e0 : (q + 1).toNat = q.toNat + 1 := by omega
     exact Rn 7 (.ex .normal) [.loop J36, .blk 4, Qs B50 64807, .blk 3, Qs B50 4051, .loop J27, .blk 2, Qs B50 127] _ (X.again (hJ36 _ _ _ _ ⟨A44, c44, m_ + (be (((xs.getD j.toNat opt0).2.1).getD q.toNat 0) (szk ((xs.getD j.toNat opt0).1)).toNat).length, p_ ++ (be (((xs.getD j.toNat opt0).2.1).getD q.toNat 0) (szk ((xs.getD j.toNat opt0).1)).toNat), IntKind.i64.wrap (q + 1), rfl, rfl, ((hG36.trans hG42).trans hG43), ⟨by omega, by omega, by rw [e1, e0]; exact put_num hp (by omega) rfl rfl, by rw [List.length_append, ← hmp], by rw [e1]; omega⟩, rfl⟩ (by rw [e1]; omega)))
    ·
     refine Rb 10 (Qo B50 64807 3) 4 [] [(103, VL D_ m_ d_), (105, VT ((xs.getD j.toNat opt0).2.2))] [9] [] [8] ?_
     refine X.appendStr 20 (RR 5 1 D_ m_ d_ ((p_).map (Value.int .u8))) 22 9 (x := .tmp 103) (y := .tmp 105) (n := m_) (c := d_) (A := D_) (b := (xs.getD j.toNat opt0).2.2) (by kernel_rfl) (by kernel_rfl) (by kernel_rfl) (by kernel_rfl) (by kernel_rfl) (by kernel_rfl) rfl (by kernel_rfl) (.inl rfl) rfl rfl (by omega) ?_
     intro A45 c45 hc45
     refine Tc [] (cs' := (p_ ++ bytesL ((xs.getD j.toNat opt0).2.2)).map (Value.int .u8)) (by simp) ?_
     have e1 : IntKind.i64.wrap (j + 1) = j + 1 := wi64 (by omega) (by omega)
     have e0 : (j + 1).toNat = j.toNat + 1 := by omega
     have hpd_ := put_done hp (by omega)
     exact Rn 9 (.ex .normal) [.loop J27, .blk 2, Qs B50 127] _ (X.again (hJ27 _ _ _ _ ⟨A45, c45, m_ + ((xs.getD j.toNat opt0).2.2).size, p_ ++ bytesL ((xs.getD j.toNat opt0).2.2), IntKind.i64.wrap (j + 1), rfl, rfl, ((hG27.trans hG33).trans hG36), ⟨by omega, by omega, by rw [e1, e0, bodyO_step (by omega), ← hl]; exact hpd_, by rw [List.length_append, ← hmp, bytesL_length]⟩, rfl⟩ (by rw [e1]; omega)))
   ·
    rw [List.take_of_length_le (show xs.length ≤ j.toNat by omega)] at hl hn
    have hnl2_ : n_ = l_.length := by have hb_ := bodyO_len xs; rw [← hl] at hb_; omega
    refine Rn 8 (Qc B50 508) [.blk 6, Qs B50 255] _ (X.loopJ (fun m s R' G' => ∃ (E_ : Option Addr) (f_ o_ : Nat) (r_ : List Int), s = ⟨115, [(6, VL E_ o_ f_)], []⟩ ∧ R' = [(20, RR 5 1 E_ o_ f_ ((r_).map (Value.int .u8)))] ∧ G27 = G' ∧ (padZ r_ = padZ (bodyO xs) ∧ o_ = r_.length ∧ o_ + (4 - o_ % 4) % 4 ≤ 44) ∧ m = (4 - o_ % 4) % 4) _ ⟨B_, c_, n_, l_, rfl, rfl, rfl, ⟨by rw [hl], hnl2_, by omega⟩, rfl⟩ ?_)
    rintro m46 s46 R46 G46 ⟨E_, f_, o_, r_, rfl, rfl, rfl, hF46, rfl⟩ J46 hJ46
    obtain ⟨hpad, hn2, hob⟩ := hF46
    refine Ra 6 (Qo B50 4064 3) 0 [Qs B50 4065, Qs B50 2033] [(109, I6 (Int.tmod ((o_ : Nat) : Int) 4))] ?_
    refine Kn 109 .i64 (((o_ : Nat) : Int) % 4) rfl (Int.tmod_eq_emod_of_nonneg (by omega)) ?_
    refine Ra 3 (Qc B50 4065) 1 [] [(110, VB ((((o_ : Nat) : Int) % 4) != 0))] ?_
    refine Sn 110 rfl ?_ ?_ <;> intro h47
    ·
     refine Ra 6 (Qo B50 4066 1) 1 [.blk 7] [(111, VL E_ o_ f_)] ?_
     refine Lt 112 5 1 1 [N8 0] ?_
     intro A48
     refine Ap 20 _ 22 1 (N8 0) (.tmp 111) (.tmp 112) o_ f_ 1 1 E_ A48 [N8 0] (.inl rfl) (by kernel_rfl) (Ar 112 rfl) (Br 112 rfl) (ones (by kernel_rfl)) (by omega) ?_
     intro A49 c49 hc49
     refine Tc [112] (cs' := (r_ ++ [0]).map (Value.int .u8)) (by simp) ?_
     refine Tr [20] ?_
     exact Rn 3 (.ex .normal) [.loop J46, .blk 6, Qs B50 255] _ (X.again (hJ46 _ _ _ _ ⟨A49, c49, o_ + 1, r_ ++ [0], rfl, rfl, rfl, ⟨by rw [padZ_step (by omega)]; exact hpad, by simp [hn2], by omega⟩, rfl⟩ (by omega)))
    ·
     refine Rn 14 (.ex .ret) [] ⟨115, [(2, VL E_ o_ f_), (3, I6 0)], []⟩ ?_
     refine Dg (.inl rfl) [.slice E_ o_ f_, N6 0] [20] rfl ((hG1.trans hG27)) ?_
     have he_ : errO xs = 0 := errO_ok hc_ (by omega)
     have hp_ : printO xs = r_ := printO_yes (l := xs) he_ hpad (by omega)
     rw [hp_, he_, ← hn2]
     exact ⟨E_, f_, rfl, rfl⟩
end Go.Proofs.YtjgpdbkkpomhjaaX
